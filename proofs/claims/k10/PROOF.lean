import PyProof.Rows.All
import Wide.All
import OpenK.AllK
import Wide.FinOn
import HandS.ForMost
import HandS.Conv
import HandS.More
import HandS.SortInts
import HandS.Wide
import HandS.Walk
import HandS.Style
import HandS.Flow
import HandS.Deep
import HandS.TupAny
import KE.GoesMore
import KE.KSortedM
import HandS.Strs
import HandS.SetFor
import HandS.TupSets
import HandS.IsInst
import HandS.NoneIn
import KE.DataMinMax
import KE.KDictZip
import KE.SortData
import HandS.ExcInit
import HandS.ExcOwn
import HandS.ExcField
import HandS.ExcIs
import HandS.WordsExc
import HandS.Text
import HandS.Lambda
import HandS.EndOwn
import KE.KNestM
import PySem.Challenge.RW_catchup_k10_written_and_read
set_option Elab.async false
set_option linter.all false
set_option autoImplicit false
set_option maxRecDepth 100000
set_option maxHeartbeats 1000000
/-! Part 0: what stays, what changes; data as they lie; calls by name -/
namespace Cu
open PySem PySem.Spec PyProof.Rows L2

/-- what never changes -/
def Imm : HO → Prop
  | .tup _ => True
  | .frz _ _ => True
  | .ext _ => True
  | _ => False
theorem nl {xs : List V} : ¬ Imm (.lst xs) := fun h => h
theorem ndk {xs : List (Key × V)} : ¬ Imm (.dK xs) := fun h => h
def Mono (H H' : Hp) : Prop := ∀ b o, H b = some o → Imm o → H' b = some o
theorem Mono.refl (H : Hp) : Mono H H := fun _ _ h _ => h
theorem Mono.trans {H H1 H2 : Hp} (a : Mono H H1) (b : Mono H1 H2) : Mono H H2 := fun c o h i => b c o (a c o h i) i
theorem Mono.new {H : Hp} {p : Addr} {o : HO} (h : H p = none) : Mono H (upd H p o) := fun b u e _ => by
  rw [upd_ne (ne_of_none e h)]
  exact e
theorem Mono.put {H : Hp} {a : Addr} {o o' : HO} (h : H a = some o) (n : ¬ Imm o) : Mono H (upd H a o') := fun b u e i => by
  by_cases hb : b = a
  · subst hb
    rw [h] at e
    cases e
    exact absurd i n
  · rw [upd_ne hb]
    exact e

/-- the changing objects one owns -/
abbrev Lg := List (Addr × HO)
structure Has (H : Hp) (l : Lg) : Prop where
  nd : (l.map Prod.fst).Nodup
  at_ : ∀ p ∈ l, H p.1 = some p.2 ∧ ¬ Imm p.2
section
variable {H H' : Hp} {l l' : Lg} {a p : Addr} {o o' : HO}
theorem Has.nil : Has H [] := ⟨List.nodup_nil, fun _ h => (nomatch h)⟩
theorem Has.mem (h : Has H l) (m : (a, o) ∈ l) : H a = some o := (h.at_ _ m).1
theorem Has.head (h : Has H ((a, o) :: l)) : H a = some o := (h.at_ _ List.mem_cons_self).1
theorem Has.tail (h : Has H ((a, o) :: l)) : Has H l := ⟨(List.nodup_cons.mp h.nd).2, fun p m => h.at_ p (List.mem_cons_of_mem _ m)⟩
theorem Has.notin (h : Has H l) (f : H p = none) : p ∉ l.map Prod.fst := fun m => by
  obtain ⟨q, hq, e⟩ := List.mem_map.mp m
  have := (h.at_ q hq).1
  rw [e, f] at this
  cases this
theorem Has.ne (h : Has H l) (f : H p = none) {q : Addr × HO} (m : q ∈ l) : q.1 ≠ p := fun e => h.notin f (by rw [← e]; exact List.mem_map_of_mem m)
/-- an object that is not ours is made or written -/
theorem Has.off (h : Has H l) (n : p ∉ l.map Prod.fst) : Has (upd H p o) l := ⟨h.nd, fun q m => ⟨by
  rw [upd_ne (fun e => n (by rw [← e]; exact List.mem_map_of_mem m))]
  exact (h.at_ q m).1, (h.at_ q m).2⟩⟩
theorem Has.old (h : Has H l) (f : H p = none) : Has (upd H p o) l := h.off (h.notin f)
theorem Has.new (h : Has H l) (f : H p = none) (n : ¬ Imm o) : Has (upd H p o) ((p, o) :: l) :=
  ⟨List.nodup_cons.mpr ⟨h.notin f, h.nd⟩, fun q m => by
    rcases List.mem_cons.mp m with e | m
    · subst e
      exact ⟨upd_same, n⟩
    · exact (h.old f).at_ q m⟩
theorem Has.put (h : Has H ((a, o) :: l)) (n : ¬ Imm o') : Has (upd H a o') ((a, o') :: l) :=
  ⟨h.nd, fun q m => by
    rcases List.mem_cons.mp m with e | m
    · subst e
      exact ⟨upd_same, n⟩
    · exact (h.tail.off (List.nodup_cons.mp h.nd).1).at_ q m⟩
theorem Has.perm (h : Has H l) (e : l.Perm l') : Has H l' := ⟨(e.map Prod.fst).nodup_iff.mp h.nd, fun q m => h.at_ q (e.mem_iff.mpr m)⟩
theorem Has.sub (h : Has H l) (e : l'.Sublist l) : Has H l' := ⟨h.nd.sublist (e.map Prod.fst), fun q m => h.at_ q (e.subset m)⟩
theorem Has.mono_put (h : Has H ((a, o) :: l)) : Mono H (upd H a o') := Mono.put h.head (h.at_ _ List.mem_cons_self).2
theorem Has.right {l2 : Lg} (h : Has H (l ++ l2)) : Has H l2 := h.sub (List.sublist_append_right _ _)
theorem Has.left {l2 : Lg} (h : Has H (l ++ l2)) : Has H l := h.sub (List.sublist_append_left _ _)
theorem Has.comm {l2 : Lg} (h : Has H (l ++ l2)) : Has H (l2 ++ l) := h.perm List.perm_append_comm
/-- the first part goes behind the second -/
theorem Has.swap {l2 l3 : Lg} (h : Has H (l ++ (l2 ++ l3))) : Has H (l2 ++ (l ++ l3)) := h.perm (by
  rw [← List.append_assoc, ← List.append_assoc]
  exact List.Perm.append_right _ List.perm_append_comm)
theorem Has.swap1 {q : Addr × HO} {l3 : Lg} (h : Has H (q :: (l ++ l3))) : Has H (l ++ (q :: l3)) := h.perm List.perm_middle.symm
theorem Has.unswap1 {q : Addr × HO} {l3 : Lg} (h : Has H (l ++ (q :: l3))) : Has H (q :: (l ++ l3)) := h.perm List.perm_middle
theorem Has.swap2 {q r : Addr × HO} (h : Has H (q :: r :: l)) : Has H (r :: q :: l) := h.perm (List.Perm.swap _ _ _)
end

section
variable {K : PySem.W.Frag} {H H' : Hp} {a : Addr} {xs : List V}
/-- a list that stays -/
def FzL (K : PySem.W.Frag) (H : Hp) (a : Addr) (xs : List V) : Prop := ∀ H', Mono H H' → SqL K H' a xs
theorem FzL.mono (h : FzL K H a xs) (m : Mono H H') : FzL K H' a xs := fun H2 m2 => h H2 (m.trans m2)
theorem FzL.sq (h : FzL K H a xs) : SqL K H a xs := h H (Mono.refl H)
theorem FzL.of {o : Obj} (h : H a = some (.frz o (.lst xs))) : FzL K H a xs := fun H' m => Or.inl (Or.inr ⟨o, m _ _ h trivial⟩)
theorem FzL.only (h : Only H) (s : SqL K H a xs) : FzL K H a xs := by
  rcases s with (s | ⟨o, s⟩) | s
  · rcases h a with e | ⟨o, ys, e⟩
    · rw [e] at s
      cases s
    · rw [e] at s
      cases s
  · exact FzL.of s
  · exact fun _ _ => Or.inr s
theorem FzL.frz {o : Obj} : FzL K (upd H a (.frz o (.lst xs))) a xs := FzL.of upd_same
end

/-- a reading that is opened by its own lemma alone -/
@[irreducible] def tI (t : TE) : TE := t
theorem rd_I {t : TE} {σ : L2.St} {H : Hp} {Q : VK} (h : t σ H Q) : tI t σ H Q := by
  unfold tI
  exact h
theorem pe_I {X : Cx} {e : Expr} {t : TE} (h : PE X e t) : PE X e (tI t) := by
  unfold tI
  exact h
/-- e, a new list, from now on never changed -/
@[irreducible] def tFz (t : TE) : TE := fun σ H Q => t σ H fun v H1 => ∃ a xs, v = .ref a ∧ H1 a = some (.lst xs) ∧ ∀ o, Q (.ref a) (upd H1 a (.frz o (.lst xs)))
theorem rd_fz {t : TE} {σ : L2.St} {H : Hp} {Q : VK} (h : t σ H fun v H1 => ∃ a xs, v = .ref a ∧ H1 a = some (.lst xs) ∧ ∀ o, Q (.ref a) (upd H1 a (.frz o (.lst xs)))) : tFz t σ H Q := by
  unfold tFz
  exact h
theorem pe_fz {X : Cx} {e : Expr} {t : TE} (h : PE X e t) : PE X e (tFz t) := ⟨fun pins s σ H Q I hw => by
  unfold tFz at hw
  exact thn (h.run pins s σ H _ I hw) fun u s1 ⟨v, H1, I1, r, a, xs, ev, ha, q⟩ => by
    subst ev
    obtain ⟨od, I2⟩ := I1.lock ha trivial
    exact ⟨_, _, I2, r, q od⟩⟩

/-! ### data -/
mutual
def Rp (K : PySem.W.Frag) (H : Hp) : PyData → V → Prop
  | .none, v => v = .non
  | .bool b, v => v = .bl b
  | .int i, v => v = .int i
  | .str s, v => v = .str s
  | .list ds, v => ∃ a xs, v = .ref a ∧ FzL K H a xs ∧ RpL K H ds xs
  | .tuple ds, v => ∃ a xs, v = .ref a ∧ H a = some (.tup xs) ∧ RpL K H ds xs
  | .dict _, _ => False
def RpL (K : PySem.W.Frag) (H : Hp) : List PyData → List V → Prop
  | [], vs => vs = []
  | d :: ds, vs => ∃ v r, vs = v :: r ∧ Rp K H d v ∧ RpL K H ds r
end
section
variable {K : PySem.W.Frag} {H H' : Hp}
mutual
theorem Rp.mono (m : Mono H H') : ∀ {d : PyData} {v : V}, Rp K H d v → Rp K H' d v
  | .none, _, h => by rw [Rp] at h ⊢; exact h
  | .bool _, _, h => by rw [Rp] at h ⊢; exact h
  | .int _, _, h => by rw [Rp] at h ⊢; exact h
  | .str _, _, h => by rw [Rp] at h ⊢; exact h
  | .list ds, _, h => by
    rw [Rp] at h ⊢
    obtain ⟨a, xs, e, f, r⟩ := h
    exact ⟨a, xs, e, f.mono m, RpL.mono m r⟩
  | .tuple ds, _, h => by
    rw [Rp] at h ⊢
    obtain ⟨a, xs, e, f, r⟩ := h
    exact ⟨a, xs, e, m _ _ f trivial, RpL.mono m r⟩
  | .dict _, _, h => by rw [Rp] at h; exact h.elim
theorem RpL.mono (m : Mono H H') : ∀ {ds : List PyData} {vs : List V}, RpL K H ds vs → RpL K H' ds vs
  | [], _, h => by rw [RpL] at h ⊢; exact h
  | d :: ds, _, h => by
    rw [RpL] at h ⊢
    obtain ⟨v, r, e, h1, h2⟩ := h
    exact ⟨v, r, e, Rp.mono m h1, RpL.mono m h2⟩
end
mutual
theorem Rp.dp : ∀ {d : PyData} {v : V}, Rp K H d v → Dp K H v d
  | .none, _, h => by rw [Rp] at h; subst h; exact .non
  | .bool _, _, h => by rw [Rp] at h; subst h; exact .bl _
  | .int _, _, h => by rw [Rp] at h; subst h; exact .int _
  | .str _, _, h => by rw [Rp] at h; subst h; exact .str _
  | .list ds, _, h => by
    rw [Rp] at h
    obtain ⟨a, xs, e, f, r⟩ := h
    subst e
    exact .lst f.sq (RpL.dp r)
  | .tuple ds, _, h => by
    rw [Rp] at h
    obtain ⟨a, xs, e, f, r⟩ := h
    subst e
    exact .tup (SqT.of f) (RpL.dp r)
  | .dict _, _, h => by rw [Rp] at h; exact h.elim
theorem RpL.dp : ∀ {ds : List PyData} {vs : List V}, RpL K H ds vs → DpAll K H vs ds
  | [], _, h => by rw [RpL] at h; subst h; exact .nil
  | d :: ds, _, h => by
    rw [RpL] at h
    obtain ⟨v, r, e, h1, h2⟩ := h
    subst e
    exact .cons (Rp.dp h1) (RpL.dp h2)
end
theorem RpL.length : ∀ {ds : List PyData} {vs : List V}, RpL K H ds vs → vs.length = ds.length
  | [], _, h => by rw [RpL] at h; subst h; rfl
  | d :: ds, _, h => by
    rw [RpL] at h
    obtain ⟨v, r, e, _, h2⟩ := h
    subst e
    rw [List.length_cons, List.length_cons, h2.length]
theorem RpL.get : ∀ {ds : List PyData} {vs : List V} {i : Nat} {d : PyData}, RpL K H ds vs → ds[i]? = some d → ∃ v, vs[i]? = some v ∧ Rp K H d v
  | [], _, _, _, _, e => by simp at e
  | d :: ds, _, i, d', h, e => by
    rw [RpL] at h
    obtain ⟨v, r, e1, h1, h2⟩ := h
    subst e1
    cases i with
    | zero =>
      have e2 : d = d' := by simpa using e
      subst e2
      exact ⟨v, rfl, h1⟩
    | succ i => exact h2.get (by simpa using e)
theorem RpL.nil : RpL K H [] [] := by rw [RpL]
theorem RpL.cons {d : PyData} {ds : List PyData} {v : V} {vs : List V} (h : Rp K H d v) (r : RpL K H ds vs) : RpL K H (d :: ds) (v :: vs) := by
  rw [RpL]
  exact ⟨v, vs, rfl, h, r⟩
theorem RpL.append : ∀ {ds es : List PyData} {vs us : List V}, RpL K H ds vs → RpL K H es us → RpL K H (ds ++ es) (vs ++ us)
  | [], _, _, _, h, g => by rw [RpL] at h; subst h; exact g
  | d :: ds, _, _, _, h, g => by
    rw [RpL] at h
    obtain ⟨v, r, e1, h1, h2⟩ := h
    subst e1
    exact .cons h1 (h2.append g)
theorem RpL.snoc {ds : List PyData} {vs : List V} {d : PyData} {v : V} (h : RpL K H ds vs) (g : Rp K H d v) : RpL K H (ds ++ [d]) (vs ++ [v]) := h.append (.cons g .nil)
theorem RpL.take : ∀ {ds : List PyData} {vs : List V} (n : Nat), RpL K H ds vs → RpL K H (ds.take n) (vs.take n)
  | [], _, n, h => by rw [RpL] at h; subst h; simpa using RpL.nil
  | d :: ds, _, n, h => by
    rw [RpL] at h
    obtain ⟨v, r, e1, h1, h2⟩ := h
    subst e1
    cases n with
    | zero => exact .nil
    | succ n => exact .cons h1 (h2.take n)
theorem RpL.drop : ∀ {ds : List PyData} {vs : List V} (n : Nat), RpL K H ds vs → RpL K H (ds.drop n) (vs.drop n)
  | [], _, n, h => by rw [RpL] at h; subst h; simpa using RpL.nil
  | d :: ds, _, n, h => by
    rw [RpL] at h
    obtain ⟨v, r, e1, h1, h2⟩ := h
    subst e1
    cases n with
    | zero => exact .cons h1 h2
    | succ n => exact h2.drop n
theorem Rp.int_iff {i : Int} {v : V} : Rp K H (.int i) v ↔ v = .int i := by rw [Rp]
theorem Rp.str_iff {i : Str} {v : V} : Rp K H (.str i) v ↔ v = .str i := by rw [Rp]
theorem Rp.bool_iff {i : Bool} {v : V} : Rp K H (.bool i) v ↔ v = .bl i := by rw [Rp]
theorem Rp.none_iff {v : V} : Rp K H .none v ↔ v = .non := by rw [Rp]
theorem Rp.int {i : Int} : Rp K H (.int i) (.int i) := by rw [Rp]
theorem Rp.str {i : Str} : Rp K H (.str i) (.str i) := by rw [Rp]
theorem Rp.bool {i : Bool} : Rp K H (.bool i) (.bl i) := by rw [Rp]
theorem Rp.non : Rp K H .none .non := by rw [Rp]
theorem Rp.tup {ds : List PyData} {a : Addr} {xs : List V} (h : H a = some (.tup xs)) (r : RpL K H ds xs) : Rp K H (.tuple ds) (.ref a) := by
  rw [Rp]
  exact ⟨a, xs, rfl, h, r⟩
theorem Rp.lst {ds : List PyData} {a : Addr} {xs : List V} (h : FzL K H a xs) (r : RpL K H ds xs) : Rp K H (.list ds) (.ref a) := by
  rw [Rp]
  exact ⟨a, xs, rfl, h, r⟩
theorem Rp.tup_inv {ds : List PyData} {v : V} (h : Rp K H (.tuple ds) v) : ∃ a xs, v = .ref a ∧ H a = some (.tup xs) ∧ RpL K H ds xs := by rwa [Rp] at h
theorem Rp.lst_inv {ds : List PyData} {v : V} (h : Rp K H (.list ds) v) : ∃ a xs, v = .ref a ∧ FzL K H a xs ∧ RpL K H ds xs := by rwa [Rp] at h
theorem RpL.nil_inv {vs : List V} (h : RpL K H [] vs) : vs = [] := by rwa [RpL] at h
theorem RpL.cons_inv {d : PyData} {ds : List PyData} {vs : List V} (h : RpL K H (d :: ds) vs) : ∃ v r, vs = v :: r ∧ Rp K H d v ∧ RpL K H ds r := by rwa [RpL] at h
theorem RpL.ints : ∀ {ns : List Int} {vs : List V}, RpL K H (ns.map PyData.int) vs → vs = ns.map V.int
  | [], _, h => h.nil_inv
  | n :: ns, _, h => by
    obtain ⟨v, r, e, h1, h2⟩ := h.cons_inv
    rw [Rp.int_iff] at h1
    rw [e, h1, h2.ints]
    rfl
theorem RpL.of_ints : ∀ (ns : List Int), RpL K H (ns.map PyData.int) (ns.map V.int)
  | [] => .nil
  | n :: ns => .cons .int (RpL.of_ints ns)
theorem Dp.ints {a : Addr} {ns : List Int} (h : SqL K H a (ns.map V.int)) : Dp K H (.ref a) (.list (ns.map PyData.int)) := .lst h (RpL.dp (RpL.of_ints ns))
end

/-! ### a def of the top, a method, a class, by name -/
section
variable (P : Program) (w : World) (K : PySem.W.Frag) (mg : Str → Option Value) (base : Heap)
structure Gf (j : Nat) (x : Str) (ps : List Str) (sp : Sp) : Prop where
  ex : ∃ f fd, FnOk P w K mg base CX0 j f fd ps sp ∧ mg x = some (.ref f) ∧ PySem.W.keepIn K (.ref f) = true ∧ Binds K fd ps []
structure Mf (j : Nat) (C : Addr) (m : Str) (ps : List Str) (sp : Sp) : Prop where
  ex : ∃ f fd, FnOk P w K mg base CX0 j f fd ps sp ∧ Meth K C m f ∧ Binds K fd ps []
structure Kf (j : Nat) (x : Str) (C : Addr) (ps : List Str) (sp : Sp) : Prop where
  ex : ∃ f fd, FnOk P w K mg base CX0 j f fd ps sp ∧ Mk K C f ∧ mg x = some (.ref C) ∧ Binds K fd ps []
end
section
variable {X : Cx} {j k : Nat} {x m : Str} {C : Addr} {ps : List Str} {sp : Sp} {p pos apos : Pos} {e o : Expr} {es : List Expr} {t : TA} {to : TE}
theorem pc (g : Gf X.prog X.w X.K X.mg X.base j x ps sp) (hr : Room k X.A) (ha : PA X (e :: es) t) (hg : Gl X x := by rfl) (hj : j ≤ k := by decide) (hdb : (x == ("__debug__" : Str)) = false := by decide)
    (he : starEach (e :: es) X.env = (false, eval e X.env) :: starEach es X.env := by rfl) (hpl : (backTo pos (starEach es X.env)).any (·.1) = false := by rfl) :
    PE X (.Call (.Name x p) (e :: es) [] pos) (tCall sp [] E0 t) := by
  obtain ⟨f, fd, F, hm, hk, hb⟩ := g.ex
  exact pe_call F (hr.mono hj) hg hm hk hb .nil pass0 ha hdb he hpl
theorem pc0 (g : Gf X.prog X.w X.K X.mg X.base j x ps sp) (hr : Room k X.A) (hg : Gl X x := by rfl) (hj : j ≤ k := by decide) (hdb : (x == ("__debug__" : Str)) = false := by decide) :
    PE X (.Call (.Name x p) [] [] pos) (tCall sp [] E0 tNil) := by
  obtain ⟨f, fd, F, hm, hk, hb⟩ := g.ex
  exact pe_call0 F (hr.mono hj) hg hm hk hb .nil pass0 hdb
theorem pm {pl : Sem Bool} (ho : PE X o to) (c : Cls X.K C) (g : Mf X.prog X.w X.K X.mg X.base j C m ps sp) (hr : Room k X.A) (ha : PA X (e :: es) t) (hj : j ≤ k := by decide)
    (hst : starEach (e :: es) X.env = (false, eval e X.env) :: starEach es X.env := by rfl) (hpl : (backTo pos (starEach es X.env)).any (·.1) = false := by rfl)
    (ht : eval (.Call (.Attribute o m apos) (e :: es) [] pos) X.env = (do
      let ov ← eval o X.env
      standAt apos.atName
      let (f, first) ← holding [ov] (getMethod ov m pl)
      callWith pos f first (backTo pos (starEach (e :: es) X.env)) (backToKw pos (keywordEach [] X.env))) := by rfl) :
    PE X (.Call (.Attribute o m apos) (e :: es) [] pos) (tMeth C m sp [] E0 to t) := by
  obtain ⟨f, fd, F, hm, hb⟩ := g.ex
  exact pe_meth ho c hm F (hr.mono hj) hb .nil pass0 ha hst hpl ht
theorem pm0 {pl : Sem Bool} (ho : PE X o to) (c : Cls X.K C) (g : Mf X.prog X.w X.K X.mg X.base j C m ps sp) (hr : Room k X.A) (hj : j ≤ k := by decide)
    (ht : eval (.Call (.Attribute o m apos) [] [] pos) X.env = (do
      let ov ← eval o X.env
      standAt apos.atName
      let (f, first) ← holding [ov] (getMethod ov m pl)
      callWith pos f first (backTo pos (starEach [] X.env)) (backToKw pos (keywordEach [] X.env))) := by rfl) :
    PE X (.Call (.Attribute o m apos) [] [] pos) (tMeth C m sp [] E0 to tNil) := by
  obtain ⟨f, fd, F, hm, hb⟩ := g.ex
  exact pe_meth0 ho c hm F (hr.mono hj) hb .nil pass0 ht
theorem pk (g : Kf X.prog X.w X.K X.mg X.base j x C ps sp) (hr : Room k X.A) (ha : PA X (e :: es) t) (hg : Gl X x := by rfl) (hj : j + 1 ≤ k := by decide) (hdb : (x == ("__debug__" : Str)) = false := by decide)
    (he : starEach (e :: es) X.env = (false, eval e X.env) :: starEach es X.env := by rfl) (hpl : (backTo pos (starEach es X.env)).any (·.1) = false := by rfl) :
    PE X (.Call (.Name x p) (e :: es) [] pos) (tMake C sp [] E0 t) := by
  obtain ⟨f, fd, F, M, hm, hb⟩ := g.ex
  exact pe_make M F (hr.mono hj) hg hm hb .nil pass0 ha hdb he hpl
end

/-! ### the dice -/
/-- the dice at a, beside what else is owned -/
def Dice (K : PySem.W.Frag) (H : Hp) (a : Addr) (R : Lg) : Prop := ∃ (c : Addr) (ns : List Int) (i m r : Int), 0 ≤ i ∧ ns.length ≤ 1000 ∧ FzL K H c (ns.map V.int) ∧ Has H ((a, .lst [.ref c, .int i, .int m, .int r]) :: R)
section
variable {K : PySem.W.Frag} {H H' : Hp} {a p : Addr} {R R' : Lg} {o o' : HO}
theorem Dice.has (d : Dice K H a R) : Has H R := let ⟨_, _, _, _, _, _, _, _, h⟩ := d; h.tail
theorem Dice.new (d : Dice K H a R) (f : H p = none) (n : ¬ Imm o) : Dice K (upd H p o) a ((p, o) :: R) :=
  let ⟨c, ns, i, m, r, h1, h2, h3, h⟩ := d
  ⟨c, ns, i, m, r, h1, h2, h3.mono (Mono.new f), (h.new f n).swap2⟩
theorem Dice.old (d : Dice K H a R) (f : H p = none) : Dice K (upd H p o) a R :=
  let ⟨c, ns, i, m, r, h1, h2, h3, h⟩ := d
  ⟨c, ns, i, m, r, h1, h2, h3.mono (Mono.new f), h.old f⟩
theorem Dice.put (d : Dice K H a ((p, o) :: R)) (n : ¬ Imm o') : Dice K (upd H p o') a ((p, o') :: R) :=
  let ⟨c, ns, i, m, r, h1, h2, h3, h⟩ := d
  ⟨c, ns, i, m, r, h1, h2, h3.mono h.swap2.mono_put, (h.swap2.put n).swap2⟩
theorem Dice.at_ (d : Dice K H a ((p, o) :: R)) : H p = some o := d.has.head
theorem Dice.mput (d : Dice K H a ((p, o) :: R)) : Mono H (upd H p o') := d.has.mono_put
theorem Dice.perm (d : Dice K H a R) (e : R.Perm R') : Dice K H a R' :=
  let ⟨c, ns, i, m, r, h1, h2, h3, h⟩ := d
  ⟨c, ns, i, m, r, h1, h2, h3, h.perm (e.cons _)⟩
theorem Dice.sub (d : Dice K H a R) (e : R'.Sublist R) : Dice K H a R' :=
  let ⟨c, ns, i, m, r, h1, h2, h3, h⟩ := d
  ⟨c, ns, i, m, r, h1, h2, h3, h.sub (e.cons_cons _)⟩
theorem Dice.tail (d : Dice K H a ((p, o) :: R)) : Dice K H a R := d.sub (List.sublist_cons_self _ _)
/-- an owned list is let go, and stays from now on -/
theorem Dice.fz {xs : List V} {ob : Obj} (d : Dice K H a ((p, .lst xs) :: R)) : Dice K (upd H p (.frz ob (.lst xs))) a R :=
  let ⟨c, ns, i, m, r, h1, h2, h3, h⟩ := d
  ⟨c, ns, i, m, r, h1, h2, h3.mono h.swap2.mono_put, h.swap2.tail.off (List.nodup_cons.mp h.swap2.nd).1⟩
theorem Dice.mfz {xs : List V} {ob : Obj} (d : Dice K H a ((p, .lst xs) :: R)) : Mono H (upd H p (.frz ob (.lst xs))) := d.mput
/-- what others do with what is owned beside -/
theorem Dice.go (d : Dice K H a R) (h : ∀ S, Has H (R ++ S) → Mono H H' ∧ Has H' (R' ++ S)) : Dice K H' a R' := by
  obtain ⟨c, ns, i, m, r, h1, h2, h3, hh⟩ := d
  have q : Has H (R ++ [(a, .lst [.ref c, .int i, .int m, .int r])]) := hh.perm (List.perm_append_singleton _ _).symm
  obtain ⟨m1, q1⟩ := h _ q
  exact ⟨c, ns, i, m, r, h1, h2, h3.mono m1, q1.perm (List.perm_append_singleton _ _)⟩
end
end Cu

/-! Part 1: a def as it stands behind the top -/
namespace Cu
open PySem PySem.Spec PyProof.Rows L2
def top (i : Nat) : Stmt := PySem.Challenge.pw_catchup_k10_written_and_read.main.body.getD i (.Pass ⟨0, 0, 0, 0⟩)
/-- no built-in's name is the module's -/
structure Blt (mg : Str → Option Value) : Prop where
  len : mg "len" = none
  range : mg "range" = none
  int : mg "int" = none
  list : mg "list" = none
  tuple : mg "tuple" = none
  sorted : mg "sorted" = none
  min : mg "min" = none
  max : mg "max" = none
  sum : mg "sum" = none
  set : mg "set" = none
  str : mg "str" = none
  isinstance : mg "isinstance" = none
  enumerate : mg "enumerate" = none
  zip : mg "zip" = none
  bool : mg "bool" = none
  dict : mg "dict" = none
section
variable (K : PySem.W.Frag) (mg : Str → Option Value)
structure Fd (x : Str) (st : Stmt) : Prop where
  ex : ∃ f fd, Fun K x x st f fd ∧ mg x = some (.ref f)
structure Md (C : Addr) (m qual : Str) (st : Stmt) : Prop where
  ex : ∃ f fd, Fun K m qual st f fd ∧ Meth K C m f
structure Kd (x : Str) (C : Addr) (qual : Str) (st : Stmt) : Prop where
  ex : ∃ f fd, Fun K "__init__" qual st f fd ∧ Mk K C f ∧ mg x = some (.ref C)
end
section
variable {P : Program} {w : World} {K : PySem.W.Frag} {mg : Str → Option Value} {base : Heap} {x m qual : Str} {C : Addr} {st : Stmt} {N ps : List Str} {k : Nat} {sp : Sp}
/-- how the written arguments come to the parameters -/
abbrev Bnd (x qual : Str) (st : Stmt) (ps : List Str) : Prop := ∀ (kV doc pm : Value) (an : Option Addr) (cdv ct : Value) (us : List Value), us.length = ps.length → bindArgs (PySem.W.fnOf x qual (defArgs st) (defBody st) (defScope st) .none kV doc pm an cdv ct) ⟨us, []⟩ = pure (ps.zip us)
theorem Fd.ok (F : Fd K mg x st) (S : FnScope N ps (defScope st)) (b : Bnd x x st ps) (len : ∀ vs H Q E, sp vs H Q E → vs.length = ps.length)
    (hbody : ∀ (qual : Str) (f : Addr) (cdv : Value) (A : Around) (outer : List Env) (s : Shared) (H : Hp) (vs : List V) (Q : VK) (E : XK), Room k (A.deeper (envOfC qual (defScope st) s.heap.objs.size f cdv)) → sp vs H Q E →
      ∃ t, PSs (cxOf CX0 P w K mg base N qual (defScope st) f cdv A outer s H E).nox (defBody st) t ∧ t { nx := fun _ H' => Q .non H', rt := Q } (start N vs) H) : Gf P w K mg base (k + 1) x ps sp := by
  obtain ⟨f, fd, F, hm⟩ := F.ex
  exact ⟨f, fd, F.ok S len fun cdv A outer s H vs Q E hr h => hbody x f cdv A outer s H vs Q E hr h, hm, F.kp, F.binds b⟩
theorem Md.ok (F : Md K C m qual st) (S : FnScope N ps (defScope st)) (b : Bnd m qual st ps) (len : ∀ vs H Q E, sp vs H Q E → vs.length = ps.length)
    (hbody : ∀ (qual : Str) (f : Addr) (cdv : Value) (A : Around) (outer : List Env) (s : Shared) (H : Hp) (vs : List V) (Q : VK) (E : XK), Room k (A.deeper (envOfC qual (defScope st) s.heap.objs.size f cdv)) → sp vs H Q E →
      ∃ t, PSs (cxOf CX0 P w K mg base N qual (defScope st) f cdv A outer s H E).nox (defBody st) t ∧ t { nx := fun _ H' => Q .non H', rt := Q } (start N vs) H) : Mf P w K mg base (k + 1) C m ps sp := by
  obtain ⟨f, fd, F, hm⟩ := F.ex
  exact ⟨f, fd, F.ok S len fun cdv A outer s H vs Q E hr h => hbody qual f cdv A outer s H vs Q E hr h, hm, F.binds b⟩
theorem Kd.ok (F : Kd K mg x C qual st) (S : FnScope N ps (defScope st)) (b : Bnd "__init__" qual st ps) (len : ∀ vs H Q E, sp vs H Q E → vs.length = ps.length)
    (hbody : ∀ (qual : Str) (f : Addr) (cdv : Value) (A : Around) (outer : List Env) (s : Shared) (H : Hp) (vs : List V) (Q : VK) (E : XK), Room k (A.deeper (envOfC qual (defScope st) s.heap.objs.size f cdv)) → sp vs H Q E →
      ∃ t, PSs (cxOf CX0 P w K mg base N qual (defScope st) f cdv A outer s H E).nox (defBody st) t ∧ t { nx := fun _ H' => Q .non H', rt := Q } (start N vs) H) : Kf P w K mg base (k + 1) x C ps sp := by
  obtain ⟨f, fd, F, hm, hx⟩ := F.ex
  exact ⟨f, fd, F.ok S len fun cdv A outer s H vs Q E hr h => hbody qual f cdv A outer s H vs Q E hr h, hm, hx, F.binds b⟩
end
theorem len_of {n : Nat} {ps : List Str} {p : List V → Hp → VK → XK → Prop} (e : n = ps.length := by rfl) : ∀ vs H Q E, (vs.length = n ∧ p vs H Q E) → vs.length = ps.length := fun _ _ _ _ h => h.1.trans e
end Cu

namespace Cu
open PySem PySem.Spec PyProof.Rows L2
/-- a statement of several ends: what stands behind all of them -/
@[irreducible] def tMid (t : TS) : TS := fun D σ H => ∃ N : L2.St → Hp → Prop, t { D with nx := N } σ H ∧ ∀ σ' H', N σ' H' → D.nx σ' H'
theorem rd_mid {t : TS} {D : Ends} {σ : L2.St} {H : Hp} (N : L2.St → Hp → Prop) (h : t { D with nx := N } σ H) (k : ∀ σ' H', N σ' H' → D.nx σ' H') : tMid t D σ H := by
  unfold tMid
  exact ⟨N, h, k⟩
theorem ps_mid {X : Cx} {st : Stmt} {t : TS} (h : PS X st t) : PS X st (tMid t) := ⟨fun pins s σ H D I hw => by
  unfold tMid at hw
  obtain ⟨N, h1, k⟩ := hw
  refine thn (h.run pins s σ H _ I h1) fun f s1 q => ?_
  cases f with
  | next =>
    obtain ⟨σ', H', I', q⟩ := q
    exact ⟨σ', H', I', k _ _ q⟩
  | brk => exact q
  | cont => exact q
  | ret u => exact q⟩
/-- e, and a list in it, if there is one, from now on never changed -/
@[irreducible] def tFzw (t : TE) : TE := fun σ H Q => t σ H fun v H1 => Q v H1 ∨ ∃ a xs, H1 a = some (.lst xs) ∧ ∀ o, Q v (upd H1 a (.frz o (.lst xs)))
theorem rd_fzw {t : TE} {σ : L2.St} {H : Hp} {Q : VK} (h : t σ H fun v H1 => Q v H1 ∨ ∃ a xs, H1 a = some (.lst xs) ∧ ∀ o, Q v (upd H1 a (.frz o (.lst xs)))) : tFzw t σ H Q := by
  unfold tFzw
  exact h
theorem pe_fzw {X : Cx} {e : Expr} {t : TE} (h : PE X e t) : PE X e (tFzw t) := ⟨fun pins s σ H Q I hw => by
  unfold tFzw at hw
  refine thn (h.run pins s σ H _ I hw) fun u s1 ⟨v, H1, I1, r, q⟩ => ?_
  rcases q with q | ⟨a, xs, ha, q⟩
  · exact ⟨_, _, I1, r, q⟩
  · obtain ⟨od, I2⟩ := I1.lock ha trivial
    exact ⟨_, _, I2, r, q od⟩⟩
end Cu

namespace Cu
open PySem PySem.Spec PyProof.Rows L2
/-! rules for a comprehension's element: the written part by its own name -/
section
variable {X : Cx} {tg e o l : Expr} {f : Str} {pos : Pos} {ta tl : TE}
theorem ix_listK (K : PySem.W.Frag) (h : X.K = K) : IxR X (rIxL K) := h ▸ ix_list
theorem ix_tupK (K : PySem.W.Frag) (h : X.K = K) : IxR X (rIxT K) := h ▸ ix_tup
theorem sl_listK (K : PySem.W.Frag) (h : X.K = K) : SlR X (rSlL K) := h ▸ sl_list
theorem op_eqDK (K : PySem.W.Frag) (h : X.K = K) (hu : X.A.units + 64 < cLine) : OpR X (compareOp .Eq) (rEqD K) := h ▸ op_eqD hu
theorem op_neDK (K : PySem.W.Frag) (h : X.K = K) (hu : X.A.units + 64 < cLine) : OpR X (compareOp .NotEq) (rNeD K) := h ▸ op_neD hu
theorem op_in_seqK (K : PySem.W.Frag) (h : X.K = K) : OpR X (compareOp .In) (rIn K false) := h ▸ op_in_seq
theorem op_notIn_seqK (K : PySem.W.Frag) (h : X.K = K) : OpR X (compareOp .NotIn) (rIn K true) := h ▸ op_notIn_seq
theorem call_len_seqK (K : PySem.W.Frag) (h : X.K = K) : CallR X (.builtin "len") (fun xs H Q => ∃ p ys, xs = [.ref p] ∧ (SqL K H p ys ∨ SqT K H p ys) ∧ Q (.int ys.length) H) := h ▸ call_len_seq
theorem call_list_ofK (K : PySem.W.Frag) (h : X.K = K) : CallR X (.type "list") (fun xs H Q => ∃ p ys, xs = [.ref p] ∧ (SqL K H p ys ∨ SqT K H p ys) ∧ ∀ l, H l = none → Q (.ref l) (upd H l (.lst ys))) := h ▸ call_list_of
theorem call_tuple_ofK (K : PySem.W.Frag) (h : X.K = K) : CallR X (.type "tuple") (fun xs H Q => ∃ p ys, xs = [.ref p] ∧ ((SqL K H p ys ∧ ∀ l, H l = none → Q (.ref l) (upd H l (.tup ys))) ∨ (SqT K H p ys ∧ Q (.ref p) H))) := h ▸ call_tuple_of
theorem cr_sumK (K : PySem.W.Frag) (h : X.K = K) (hc : X.calm = true) : CallR X (.builtin "sum") (rSum K) := h ▸ cr_sum hc
theorem cr_minK' (K : PySem.W.Frag) (h : X.K = K) (hc : X.calm = true) : CallR X (.builtin "min") (rMin K) := h ▸ cr_min hc
theorem cr_maxK' (K : PySem.W.Frag) (h : X.K = K) (hc : X.calm = true) : CallR X (.builtin "max") (rMax K) := h ▸ cr_max hc
theorem cr_sortedIK (K : PySem.W.Frag) (h : X.K = K) : CallR X (.builtin "sorted") (rSortedI K) := h ▸ cr_sortedI
theorem pi_listK (K : PySem.W.Frag) (h : X.K = K) (hl : PE X l tl) : PI X tg l (iList K tl) := h ▸ pi_list hl
theorem pe_fldK (K : PySem.W.Frag) (h : X.K = K) (he : PE X e ta) (hb : attributeBase e f X.env (eval e X.env) = eval e X.env) : PE X (.Attribute e f pos) (tFld K ta f) := h ▸ pe_fld he hb
end
end Cu

namespace Cu
open PySem PySem.Spec PyProof.Rows L2
abbrev s_dice : Stmt := (top 19)
theorem sc_dice : FnScope ["_law_script", "_law_mixed", "_law_cell"] ["_law_script"] (defScope s_dice) := ⟨rfl, rfl, rfl, by decide +kernel, rfl, by decide +kernel, by decide +kernel⟩

abbrev s_next : Stmt := (top 20)
theorem sc_next : FnScope ["_law_dice_here", "_law_many", "_law_found", "_law_cell"] ["_law_dice_here", "_law_many"] (defScope s_next) := ⟨rfl, rfl, rfl, by decide +kernel, rfl, by decide +kernel, by decide +kernel⟩

def spDice (K : PySem.W.Frag) : Sp := fun vs H Q _ => vs.length = 1 ∧ ∃ (c : Addr) (ns : List Int) (R : Lg), vs = [.ref c] ∧ ns.length ≤ 1000 ∧ FzL K H c (ns.map V.int) ∧ Has H R ∧
  ∀ (a : Addr) (H' : Hp), Mono H H' → Dice K H' a R → Q (.ref a) H'
def spNext (K : PySem.W.Frag) : Sp := fun vs H Q _ => vs.length = 2 ∧ ∃ (a : Addr) (m : Int) (R : Lg), vs = [.ref a, .int m] ∧ 0 < m ∧ m ≤ 1000000000000000000 ∧ Dice K H a R ∧
  ∀ (r : Int) (H' : Hp), 0 ≤ r → r < m → Mono H H' → Dice K H' a R → Q (.int r) H'
section
variable {P : Program} {w : World} {K : PySem.W.Frag} {mg : Str → Option Value} {base : Heap}
theorem ok_dice (F : Fd K mg "_law_dice" s_dice) (Bm : Blt mg) : Gf P w K mg base 1 "_law_dice" ["_law_script"] (spDice K) := by
  refine F.ok sc_dice (fun _ _ _ _ _ _ us hl => match us, hl with | [_], _ => rfl) len_of fun qual f cdv A outer s H vs Q E hr h => ?_
  obtain ⟨_, c, ns, R, rfl, hn, hf, hR, k⟩ := h
  refine ⟨_, (pss_cons (ps_set (i := 1) sc_dice.nd rfl (Or.inl rfl) pe_int)
      (pss_cons (ps_for PassesOwn.never rfl (pi_list (pv 0)) (pg_name (i := 2) sc_dice.nd rfl (Or.inl rfl))
        (pss_one (ps_set (i := 1) sc_dice.nd rfl (Or.inl rfl) (pe_op op_mod (pe_op op_add (pe_op op_add (pe_op op_mul (pv 1) pe_int) (pe_op op_mul (pe_op op_mod (pv 2) pe_int) pe_int)) pe_int) pe_int))))
      (pss_one (ps_ret (pe_lst (pa_cons (pv 0) (pa_cons pe_int (pa_cons (pe_op op_mul (pv 1) (pe_callTy call_int1 rfl Bm.int (by decide +kernel) (pa_cons (pe_cmpR op_gt (pe_callB call_len_seq rfl Bm.len (by decide +kernel) (pa_cons (pv 0) pa_nil)) pe_int (nomark _)) pa_nil))) (pa_cons pe_int pa_nil))))))))), ?_⟩
  refine ⟨_, rfl, c, rfl, ⟨_, hf.sq⟩, for_list (K := K) (a := c) (xs := ns.map V.int) (fun i σ H2 => ∃ (z : Int) (v : Option V), σ = [some (.ref c), some (.int z), v] ∧ H2 = H) ⟨0, none, rfl, rfl⟩ (fun i σ H2 _ ⟨_, _, _, e⟩ => by rw [e]; exact hf.sq) ?_ ?_⟩
  · rintro i x σ H2 hi ⟨z, v, rfl, rfl⟩
    obtain ⟨y, rfl⟩ : ∃ y, x = V.int y := by
      rw [List.getElem?_map] at hi
      cases e : ns[i]? with
      | none =>
        rw [e] at hi
        cases hi
      | some y =>
        rw [e] at hi
        exact ⟨y, (Option.some.inj hi).symm⟩
    refine ⟨_, rfl, _, _, rfl, rfl, .inr ⟨by decide, by decide⟩, _, rfl, _, _, rfl, rfl, (by show (0 : Int) < 2147483647; decide), _, _, rfl, rfl, .inr ⟨by decide, by decide⟩, _, _, rfl, rfl, _, _, rfl, rfl, _, _, rfl, rfl, (by show (0 : Int) < 2147483647; decide), ?_⟩
    exact ⟨_, _, rfl, rfl⟩
  · rintro σ H2 ⟨z, v, rfl, rfl⟩
    refine ⟨_, rfl, _, rfl, _, rfl, c, _, rfl, .inl hf.sq, _, _, rfl, rfl, .inr ⟨_, rfl, _, _, rfl, rfl, .inr (by split <;> exact ⟨by decide, by decide⟩), ?_⟩⟩
    refine ⟨(by show 4 ≤ sizeLine; decide), fun l hl => ?_⟩
    exact k l _ (Mono.new hl) ⟨c, ns, _, _, _, Int.le_refl 0, hn, hf.mono (Mono.new hl), hR.new hl nl⟩
theorem ok_next (F : Fd K mg "_law_next" s_next) (Bm : Blt mg) : Gf P w K mg base 1 "_law_next" ["_law_dice_here", "_law_many"] (spNext K) := by
  refine F.ok sc_next (fun _ _ _ _ _ _ us hl => match us, hl with | [_, _], _ => rfl) len_of fun qual f cdv A outer s H vs Q E hr h => ?_
  obtain ⟨_, a, m, R, rfl, hm, hm2, ⟨c, ns, i, mx, r, hi, hn, hf, hh⟩, k⟩ := h
  have hdiv : CDivW 0 m := wide_div hm (wide_le (j := 1000000000000000000) (a := 60) (by omega) (by omega) (by decide)) (by decide) (by decide)
  refine ⟨_, (pss_cons (ps_if (pt_cmpR op_gt (pe_ix ix_list (pv 0) pe_int (fun _ _ => rfl)) pe_int (nomark _))
        (pss_cons (ps_set (i := 2) sc_next.nd rfl (Or.inl rfl) (pe_op op_mod (pe_ix ix_list (pv 0) pe_int (fun _ _ => rfl)) (pv 1)))
        (pss_cons (ps_asg (pe_op op_fdivW (pe_ix ix_list (pv 0) pe_int (fun _ _ => rfl)) (pv 1)) (pg_sub (pv 0) pe_int set_list))
        (pss_one (ps_ret (pv 2)))))
        pss_nil)
      (pss_cons (ps_asg (pe_op op_add (pe_ix ix_list (pv 0) pe_int (fun _ _ => rfl)) pe_int) (pg_sub (pv 0) pe_int set_list))
      (pss_cons (ps_if (pt_cmpR op_le (pe_ix ix_list (pv 0) pe_int (fun _ _ => rfl)) (pe_callB call_len_seq rfl Bm.len (by decide +kernel) (pa_cons (pe_ix ix_list (pv 0) pe_int (fun _ _ => rfl)) pa_nil)) (nomark _))
        (pss_cons (ps_set (i := 3) sc_next.nd rfl (Or.inl rfl) (pe_ix ix_list (pe_ix ix_list (pv 0) pe_int (fun _ _ => rfl)) (pe_op op_sub (pe_ix ix_list (pv 0) pe_int (fun _ _ => rfl)) pe_int) (fun _ _ => rfl)))
        (pss_cons (ps_asg (pe_ifExp (pt_cmpR op_ge (pv 3) (pe_op op_pow pe_int pe_int) (nomark _)) (pe_op op_fdivW (pv 3) (pv 1)) pe_int) (pg_sub (pv 0) pe_int set_list))
        (pss_one (ps_ret (pe_op op_mod (pv 3) (pv 1))))))
        pss_nil)
      (pss_cons (ps_asg (pe_op op_mod (pe_op op_mul (pe_ix ix_list (pv 0) pe_int (fun _ _ => rfl)) pe_int) pe_int) (pg_sub (pv 0) pe_int set_list))
      (pss_one (ps_ret (pe_op op_mod (pe_op op_fdivW (pe_ix ix_list (pv 0) pe_int (fun _ _ => rfl)) pe_int) (pv 1)))))))), ?_⟩
  have h0 := hh.head
  refine ⟨_, rfl, _, _, _, _, rfl, rfl, SqL.of h0, rfl, _, _, rfl, rfl, _, rfl, ite2 (fun hr0 => ?_) fun hr0 => ?_⟩
  · refine ⟨_, rfl, _, _, _, _, rfl, rfl, SqL.of h0, rfl, _, rfl, _, _, rfl, rfl, hm, ?_⟩
    refine ⟨_, rfl, _, _, _, _, rfl, rfl, SqL.of h0, rfl, _, rfl, _, _, rfl, rfl, hdiv, _, rfl, _, _, _, _, rfl, rfl, h0, rfl, _, rfl, ?_⟩
    exact k _ _ (Int.emod_nonneg _ (by omega)) (Int.emod_lt_of_pos _ hm) hh.mono_put ⟨c, ns, i, mx, r / m, hi, hn, hf.mono hh.mono_put, hh.put nl⟩
  · refine ⟨_, rfl, _, _, _, _, rfl, rfl, SqL.of h0, rfl, _, _, rfl, rfl, _, rfl, _, _, _, _, rfl, rfl, h0, rfl, ?_⟩
    have h1 : Has (upd H a (.lst [.ref c, .int (i + 1), .int mx, .int r])) ((a, .lst [.ref c, .int (i + 1), .int mx, .int r]) :: R) := hh.put nl
    have m1 : Mono H (upd H a (.lst [.ref c, .int (i + 1), .int mx, .int r])) := hh.mono_put
    have f1 := hf.mono m1
    have e1 := h1.head
    refine ⟨_, rfl, _, _, _, _, rfl, rfl, SqL.of e1, rfl, _, rfl, _, _, _, _, rfl, rfl, SqL.of e1, rfl, c, _, rfl, .inl f1.sq, _, _, rfl, rfl, _, rfl, ite2 (fun hle => ?_) fun hle => ?_⟩
    · have hle' : i + 1 ≤ (ns.length : Int) := by
        have := of_decide_eq_true hle
        rw [List.length_map] at this
        exact this
      have hj : i.toNat < ns.length := by omega
      have hat : atI (ns.map V.int) (i + 1 - 1) = some (V.int ns[i.toNat]) := at_of (j := i.toNat) (by omega) (by rw [List.getElem?_map, List.getElem?_eq_getElem hj]; rfl)
      refine ⟨_, rfl, _, _, _, _, rfl, rfl, SqL.of e1, rfl, _, rfl, _, _, _, _, rfl, rfl, SqL.of e1, rfl, _, _, rfl, rfl, c, _, _, _, rfl, rfl, f1.sq, hat, ?_⟩
      refine ⟨_, rfl, _, _, rfl, rfl, ⟨by decide, by decide, by decide⟩, _, _, rfl, rfl, _, rfl, ite2 (fun hb => ?_) fun hb => ?_⟩
      · refine ⟨_, rfl, _, rfl, _, _, rfl, rfl, hdiv, _, rfl, _, _, _, _, rfl, rfl, e1, rfl, _, rfl, _, rfl, _, _, rfl, rfl, hm, ?_⟩
        exact k _ _ (Int.emod_nonneg _ (by omega)) (Int.emod_lt_of_pos _ hm) (m1.trans h1.mono_put) ⟨c, ns, i + 1, mx, ns[i.toNat] / m, by omega, hn, f1.mono h1.mono_put, h1.put nl⟩
      · refine ⟨_, rfl, _, _, _, _, rfl, rfl, e1, rfl, _, rfl, _, rfl, _, _, rfl, rfl, hm, ?_⟩
        exact k _ _ (Int.emod_nonneg _ (by omega)) (Int.emod_lt_of_pos _ hm) (m1.trans h1.mono_put) ⟨c, ns, i + 1, mx, 0, by omega, hn, f1.mono h1.mono_put, h1.put nl⟩
    · refine ⟨_, rfl, _, _, _, _, rfl, rfl, SqL.of e1, rfl, _, _, rfl, rfl, .inr ⟨by decide, by decide⟩, _, _, rfl, rfl, (by show (0 : Int) < 2147483647; decide), _, rfl, _, _, _, _, rfl, rfl, e1, rfl, ?_⟩
      have h2 := h1.put (o' := .lst [.ref c, .int (i + 1), .int (mx * 48271 % 2147483647), .int r]) nl
      have e2 := h2.head
      refine ⟨_, rfl, _, _, _, _, rfl, rfl, SqL.of e2, rfl, _, _, rfl, rfl, ⟨by decide, by decide⟩, _, rfl, _, _, rfl, rfl, hm, ?_⟩
      exact k _ _ (Int.emod_nonneg _ (by omega)) (Int.emod_lt_of_pos _ hm) (m1.trans h1.mono_put) ⟨c, ns, i + 1, _, r, by omega, hn, f1.mono h1.mono_put, h2⟩
end
end Cu

namespace Cu
open PySem PySem.Spec PyProof.Rows L2
abbrev s_worth : Stmt := (top 22)
theorem sc_worth : FnScope ["_law_d"] ["_law_d"] (defScope s_worth) := ⟨rfl, rfl, rfl, by decide +kernel, rfl, by decide +kernel, by decide +kernel⟩

abbrev s_changes : Stmt := (top 24)
theorem sc_changes : FnScope ["_law_d", "_law_keys", "_law_most", "_law_often", "_law_few", "_law_found", "_law_k", "_law_word"] ["_law_d", "_law_keys", "_law_most"] (defScope s_changes) := ⟨rfl, rfl, rfl, by decide +kernel, rfl, by decide +kernel, by decide +kernel⟩

theorem at_some {xs : List V} {r : Int} (h0 : 0 ≤ r) (h1 : r < (xs.length : Int)) : ∃ v, atI xs r = some v ∧ v ∈ xs := by
  have hj : r.toNat < xs.length := by omega
  exact ⟨xs[r.toNat], at_of (j := r.toNat) (by omega) (List.getElem?_eq_getElem hj), List.getElem_mem hj⟩
/-- a change as it is drawn -/
structure Ch where
  key : Nat
  set : Bool
  worth : Int
def wd (b : Bool) : Str := if b then "set" else "add"
def Ch.enc (c : Ch) : PyData := .tuple [.int c.key, .str (wd c.set), .int c.worth]
def spWorth (K : PySem.W.Frag) : Sp := fun vs H Q _ => vs.length = 1 ∧ ∃ (a : Addr) (R : Lg), vs = [.ref a] ∧ Dice K H a R ∧ ∀ (z : Int) (H' : Hp), Mono H H' → Dice K H' a R → Q (.int z) H'
def spChanges (K : PySem.W.Frag) : Sp := fun vs H Q _ => vs.length = 3 ∧ ∃ (a : Addr) (nk mo : Nat) (R : Lg), vs = [.ref a, .int nk, .int mo] ∧ 0 < nk ∧ nk ≤ 8 ∧ mo ≤ 1000 ∧ Dice K H a R ∧
  ∀ (cs : List Ch) (v : V) (H' : Hp), cs.length ≤ mo → (∀ c ∈ cs, c.key < nk) → Mono H H' → Dice K H' a R → Rp K H' (.list (cs.map Ch.enc)) v → Q v H'
section
variable {P : Program} {w : World} {K : PySem.W.Frag} {mg : Str → Option Value} {base : Heap}
theorem ok_worth (F : Fd K mg "_law_worth" s_worth) (Bm : Blt mg) (g_next : Gf P w K mg base 1 "_law_next" ["_law_dice_here", "_law_many"] (spNext K)) : Gf P w K mg base 2 "_law_worth" ["_law_d"] (spWorth K) := by
  refine F.ok sc_worth (fun _ _ _ _ _ _ us hl => match us, hl with | [_], _ => rfl) len_of fun qual f cdv A outer s H vs Q E hr h => ?_
  obtain ⟨_, a, R, rfl, d, k⟩ := h
  refine ⟨_, (pss_one (ps_ret (pe_ix ix_list (pe_lst (pa_cons (pe_op op_sub (pc g_next hr (pa_cons (pv 0) (pa_cons pe_int pa_nil))) pe_int) (pa_cons (pe_op op_sub (pc g_next hr (pa_cons (pv 0) (pa_cons pe_int pa_nil))) pe_int) (pa_cons (pc g_next hr (pa_cons (pv 0) (pa_cons (pe_op op_pow pe_int pe_int) pa_nil))) pa_nil)))) (pc g_next hr (pa_cons (pv 0) (pa_cons pe_int pa_nil))) (fun _ _ => rfl)))), ?_⟩
  refine ⟨_, rfl, rfl, a, 5, R, rfl, by decide, by decide, d, fun r1 H1 _ _ m1 d1 => ⟨_, _, rfl, rfl, ?_⟩⟩
  refine ⟨_, rfl, rfl, a, 2000, R, rfl, by decide, by decide, d1, fun r2 H2 _ _ m2 d2 => ⟨_, _, rfl, rfl, ?_⟩⟩
  refine ⟨_, rfl, _, _, rfl, rfl, ⟨by decide, by decide, by decide⟩, rfl, a, 1000000000000000000, R, rfl, by decide, by decide, d2, fun r3 H3 _ _ m3 d3 => ⟨(by show 3 ≤ sizeLine; decide), fun p hp => ?_⟩⟩
  refine ⟨_, rfl, rfl, a, 3, _, rfl, by decide, by decide, d3.new (o := .lst [.int (r1 - 1), .int (r2 - 1000), .int r3]) hp nl, fun r4 H4 h0 h1 m4 d4 => ?_⟩
  obtain ⟨v, hv, hm⟩ := at_some (xs := [.int (r1 - 1), .int (r2 - 1000), .int r3]) h0 h1
  obtain ⟨z, rfl⟩ : ∃ z, v = V.int z := by
    simp only [List.mem_cons, List.not_mem_nil, or_false] at hm
    rcases hm with e | e | e <;> exact ⟨_, e⟩
  exact ⟨_, _, _, _, rfl, rfl, SqL.of d4.at_, hv, k z H4 ((((m1.trans m2).trans m3).trans (Mono.new hp)).trans m4) d4.tail⟩
theorem ok_changes (F : Fd K mg "_law_changes" s_changes) (Bm : Blt mg) (g_next : Gf P w K mg base 1 "_law_next" ["_law_dice_here", "_law_many"] (spNext K)) (g_worth : Gf P w K mg base 2 "_law_worth" ["_law_d"] (spWorth K)) :
    Gf P w K mg base 3 "_law_changes" ["_law_d", "_law_keys", "_law_most"] (spChanges K) := by
  refine F.ok sc_changes (fun _ _ _ _ _ _ us hl => match us, hl with | [_, _, _], _ => rfl) len_of fun qual f cdv A outer s H vs Q E hr h => ?_
  obtain ⟨_, a, nk, mo, R, rfl, hk, hk8, hmo, d, k⟩ := h
  refine ⟨_, (pss_cons (ps_set (i := 3) sc_changes.nd rfl (Or.inl rfl) (pe_op op_add pe_int (pc g_next hr (pa_cons (pv 0) (pa_cons pe_int pa_nil)))))
      (pss_cons (ps_set (i := 4) sc_changes.nd rfl (Or.inl rfl) (pe_op op_add pe_int (pc g_next hr (pa_cons (pv 0) (pa_cons (pv 1) pa_nil)))))
      (pss_cons (ps_set (i := 5) sc_changes.nd rfl (Or.inl rfl) (pe_lst pa_nil))
      (pss_cons (ps_for PassesOwn.never rfl (pi_range1 rfl Bm.range (pa_cons (pc g_next hr (pa_cons (pv 0) (pa_cons (pe_op op_add (pv 2) pe_int) pa_nil))) pa_nil)) (pg_name (i := 6) sc_changes.nd rfl (Or.inl rfl))
        (pss_cons (ps_set (i := 7) sc_changes.nd rfl (Or.inl rfl) (pe_ix ix_list (pe_lst (pa_cons pe_str (pa_cons pe_str pa_nil))) (pe_callTy call_int1 rfl Bm.int (by decide +kernel) (pa_cons (pe_cmpR op_eq (pc g_next hr (pa_cons (pv 0) (pa_cons (pv 3) pa_nil))) pe_int (nomark _)) pa_nil)) (fun _ _ => rfl)))
        (pss_one (ps_expr (pe_bm PySem.F.plainAttrs_list PySem.F.slot_list_append PySem.F.type_list_append mt_append (pv 5) (pa_cons (pe_tup (pa_cons (pc g_next hr (pa_cons (pv 0) (pa_cons (pe_ix ix_list (pe_lst (pa_cons (pv 4) (pa_cons (pv 4) (pa_cons (pv 1) pa_nil)))) (pc g_next hr (pa_cons (pv 0) (pa_cons pe_int pa_nil))) (fun _ _ => rfl)) pa_nil))) (pa_cons (pv 7) (pa_cons (pc g_worth hr (pa_cons (pv 0) pa_nil)) pa_nil)))) pa_nil))))))
      (pss_one (ps_ret (pe_fz (pv 5)))))))), ?_⟩
  refine ⟨_, rfl, rfl, a, 4, R, rfl, by decide, by decide, d, fun r1 H1 p1 q1 m1 d1 => ⟨_, _, rfl, rfl, ?_⟩⟩
  refine ⟨_, rfl, _, rfl, rfl, a, nk, R, rfl, by omega, by omega, d1, fun r2 H2 p2 q2 m2 d2 => ⟨_, _, rfl, rfl, ?_⟩⟩
  refine ⟨(by show 0 ≤ sizeLine; decide), fun p hp => ?_⟩
  have d3 := d2.new (o := .lst []) hp nl
  have m3 := (m1.trans m2).trans (Mono.new (o := .lst []) hp)
  refine ⟨_, rfl, _, rfl, _, _, rfl, rfl, rfl, a, mo + 1, _, rfl, by omega, by omega, d3, fun r4 H4 p4 q4 m4 d4 => ⟨_, rfl, by omega, by omega, ?_⟩⟩
  refine for_range (lo := 0) (n := r4.toNat) (fun i σ H5 => ∃ (cs : List Ch) (xs : List V) (v6 v7 : Option V), σ = [some (.ref a), some (.int nk), some (.int mo), some (.int (1 + r1)), some (.int (1 + r2)), some (.ref p), v6, v7] ∧
    Mono H H5 ∧ Dice K H5 a ((p, .lst xs) :: R) ∧ RpL K H5 (cs.map Ch.enc) xs ∧ cs.length = i ∧ ∀ c ∈ cs, c.key < nk)
    ⟨[], [], none, none, rfl, m3.trans m4, d4, .nil, rfl, fun _ h => (nomatch h)⟩ ?_ ?_
  · rintro i σ H5 hi ⟨cs, xs, v6, v7, rfl, m5, d5, rp, hl, hc⟩
    refine ⟨(by show 2 ≤ sizeLine; decide), fun l hl2 => ?_⟩
    have d6 := d5.new (o := .lst [.str "add", .str "set"]) hl2 nl
    refine ⟨_, rfl, _, rfl, rfl, a, _, _, rfl, by omega, by omega, d6, fun r6 H6 _ _ m6 d7 => ⟨rfl, .inr ⟨_, rfl, ?_⟩⟩⟩
    have d8 := d7.tail
    have m8 := (Mono.new (o := .lst [.str "add", .str "set"]) hl2).trans m6
    refine ⟨_, _, _, .str (wd (decide (V.int r6 = V.int 0))), rfl, rfl, SqL.of d7.at_, (by cases decide (V.int r6 = V.int 0) <;> rfl), ?_⟩
    refine ⟨_, rfl, .inl ⟨rfl, _, SqL.of d8.at_⟩, _, rfl, _, rfl, _, rfl, _, rfl, ⟨(by show 3 ≤ sizeLine; decide), fun l2 hl3 => ?_⟩⟩
    have d9 := d8.new (o := .lst [.int (1 + r2), .int (1 + r2), .int nk]) hl3 nl
    refine ⟨_, rfl, rfl, a, 3, _, rfl, by decide, by decide, d9, fun r9 H9 p9 q9 m9 d10 => ?_⟩
    obtain ⟨v, hv, hm⟩ := at_some (xs := [.int (1 + r2), .int (1 + r2), .int nk]) p9 q9
    obtain ⟨z, rfl, hz0, hzk⟩ : ∃ z, v = V.int z ∧ 0 < z ∧ z ≤ nk := by
      simp only [List.mem_cons, List.not_mem_nil, or_false] at hm
      rcases hm with e | e | e
      · exact ⟨_, e, by omega, by omega⟩
      · exact ⟨_, e, by omega, by omega⟩
      · exact ⟨_, e, by omega, by omega⟩
    refine ⟨_, _, _, _, rfl, rfl, SqL.of d10.at_, hv, rfl, a, z, _, rfl, hz0, by omega, d10.tail, fun r11 H11 p11 q11 m11 d11 => ?_⟩
    refine ⟨_, rfl, _, rfl, rfl, a, _, rfl, d11, fun z12 H12 m12 d12 => ⟨(by show 3 ≤ sizeLine; decide), fun t ht => ?_⟩⟩
    have ms := (((m8.trans (Mono.new (o := .lst [.int (1 + r2), .int (1 + r2), .int nk]) hl3)).trans m9).trans m11).trans m12
    have d13 := d12.old (o := .tup [.int r11, .str (wd (decide (V.int r6 = V.int 0))), .int z12]) ht
    have mt : Mono H12 (upd H12 t (.tup [.int r11, .str (wd (decide (V.int r6 = V.int 0))), .int z12])) := Mono.new ht
    have hxs : xs.length = i := by rw [rp.length, List.length_map, hl]
    refine ⟨_, _, _, rfl, rfl, d13.at_, (by rw [hxs]; exact small1000 (by omega)), ?_⟩
    refine ⟨cs ++ [⟨r11.toNat, decide (V.int r6 = V.int 0), z12⟩], _, _, _, rfl, ((m5.trans ms).trans mt).trans d13.mput, d13.put nl, ?_, by rw [List.length_append, hl]; rfl, fun c hcm => ?_⟩
    · rw [List.map_append]
      refine ((rp.mono ((ms.trans mt).trans d13.mput)).append (.cons ?_ .nil))
      have e : ((r11.toNat : Nat) : Int) = r11 := by omega
      refine Rp.tup (d13.mput _ _ upd_same trivial) ?_
      show RpL K _ [.int ((r11.toNat : Nat) : Int), _, _] _
      rw [e]
      exact .cons .int (.cons .str (.cons .int .nil))
    · rcases List.mem_append.mp hcm with h | h
      · exact hc c h
      · rw [List.mem_singleton.mp h]
        show r11.toNat < nk
        omega
  · rintro σ H5 ⟨cs, xs, v6, v7, rfl, m5, d5, rp, hl, hc⟩
    refine rd_fz ⟨_, rfl, p, xs, rfl, d5.at_, fun o => ?_⟩
    exact k cs _ _ (by omega) hc (m5.trans d5.mfz) d5.fz (.lst FzL.frz (rp.mono d5.mfz))
end
end Cu

namespace Cu
open PySem PySem.Spec PyProof.Rows L2
/-! a story: worths and lasts behind changes, rows, letters -/
def wst (k : Nat) (w : Int) (c : Ch) : Int := if c.key = k then (if c.set then 0 else w) + c.worth else w
def wofR : List Ch → Nat → Int
  | [], _ => 0
  | c :: r, k => wst k (wofR r k) c
def lofR : List Ch → Nat → Nat
  | [], _ => 0
  | c :: r, k => if c.key = k then r.length + 1 else lofR r k
def wof (cs : List Ch) (k : Nat) : Int := wofR cs.reverse k
def lof (cs : List Ch) (k : Nat) : Nat := lofR cs.reverse k
theorem wof_nil (k : Nat) : wof [] k = 0 := rfl
theorem lof_nil (k : Nat) : lof [] k = 0 := rfl
theorem wof_snoc (cs : List Ch) (c : Ch) (k : Nat) : wof (cs ++ [c]) k = wst k (wof cs k) c := by
  unfold wof
  rw [List.reverse_append]
  rfl
theorem lof_snoc (cs : List Ch) (c : Ch) (k : Nat) : lof (cs ++ [c]) k = if c.key = k then cs.length + 1 else lof cs k := by
  unfold lof
  rw [List.reverse_append]
  show (if c.key = k then cs.reverse.length + 1 else lofR cs.reverse k) = _
  rw [List.length_reverse]
def wrow (nk : Nat) (cs : List Ch) : List Int := (List.range nk).map (wof cs)
def lrow (nk : Nat) (cs : List Ch) : List Int := (List.range nk).map fun k => (lof cs k : Int)
def ilst (ns : List Int) : PyData := .list (ns.map PyData.int)
def rowD (nk : Nat) (cs : List Ch) : PyData := .tuple [ilst (wrow nk cs), ilst (lrow nk cs)]
inductive Letter where
  | change (n : Nat) (c : Ch) (ahead : Nat)
  | part (n b : Nat) (rows : List (Int × Nat))
  | beat (n : Nat) (lasts : List Nat)
def Letter.enc : Letter → PyData
  | .change n c ahead => .tuple [.str "change", .int n, .int c.key, .str (wd c.set), .int c.worth, .int ahead]
  | .part n b rows => .tuple [.str "part", .int n, .int b, .tuple (rows.map fun r => .tuple [.int r.1, .int r.2])]
  | .beat n lasts => .tuple [.str "beat", .int n, .tuple (lasts.map fun k : Nat => .int k)]
def letsR : List Ch → List Letter
  | [] => []
  | c :: r => letsR r ++ [.change (r.length + 1) c (lofR r c.key)]
def rowsR (nk : Nat) : List Ch → List PyData
  | [] => [rowD nk []]
  | c :: r => rowsR nk r ++ [rowD nk (c :: r).reverse]
def lets (cs : List Ch) : List Letter := letsR cs.reverse
def rowsD (nk : Nat) (cs : List Ch) : List PyData := rowsR nk cs.reverse
theorem lets_nil : lets [] = [] := rfl
theorem lets_snoc (cs : List Ch) (c : Ch) : lets (cs ++ [c]) = lets cs ++ [.change (cs.length + 1) c (lof cs c.key)] := by
  unfold lets lof
  rw [List.reverse_append]
  show letsR cs.reverse ++ [Letter.change (cs.reverse.length + 1) c (lofR cs.reverse c.key)] = _
  rw [List.length_reverse]
theorem rowsD_nil (nk : Nat) : rowsD nk [] = [rowD nk []] := rfl
theorem rowsD_snoc (nk : Nat) (cs : List Ch) (c : Ch) : rowsD nk (cs ++ [c]) = rowsD nk cs ++ [rowD nk (cs ++ [c])] := by
  unfold rowsD
  rw [List.reverse_append]
  show rowsR nk cs.reverse ++ [rowD nk (c :: cs.reverse).reverse] = _
  rw [List.reverse_cons, List.reverse_reverse]
theorem snoc_ind {α : Type} {p : List α → Prop} (h0 : p []) (h1 : ∀ xs x, p xs → p (xs ++ [x])) (xs : List α) : p xs := by
  have q : ∀ ys : List α, p ys.reverse := fun ys => by
    induction ys with
    | nil => exact h0
    | cons y ys ih =>
      rw [List.reverse_cons]
      exact h1 _ _ ih
  have := q xs.reverse
  rwa [List.reverse_reverse] at this
theorem rowsD_last (nk : Nat) (cs : List Ch) : ∃ init, rowsD nk cs = init ++ [rowD nk cs] := by
  induction cs using snoc_ind with
  | h0 => exact ⟨[], rfl⟩
  | h1 cs c _ => exact ⟨_, rowsD_snoc nk cs c⟩
theorem rowsD_length (nk : Nat) (cs : List Ch) : (rowsD nk cs).length = cs.length + 1 := by
  induction cs using snoc_ind with
  | h0 => rfl
  | h1 cs c ih => rw [rowsD_snoc, List.length_append, ih, List.length_append]; rfl
theorem lets_length (cs : List Ch) : (lets cs).length = cs.length := by
  induction cs using snoc_ind with
  | h0 => rfl
  | h1 cs c ih => rw [lets_snoc, List.length_append, ih, List.length_append]; rfl
theorem rowsD_get {nk : Nat} : ∀ {cs : List Ch} {n : Nat}, n ≤ cs.length → (rowsD nk cs)[n]? = some (rowD nk (cs.take n)) := by
  intro cs
  induction cs using snoc_ind with
  | h0 =>
    intro n h
    have : n = 0 := by simpa using h
    subst this
    rfl
  | h1 cs c ih =>
    intro n h
    rw [rowsD_snoc]
    rw [List.length_append, List.length_singleton] at h
    by_cases e : n ≤ cs.length
    · rw [List.getElem?_append_left (by rw [rowsD_length]; omega), ih e, List.take_append_of_le_length e]
    · have e1 : n = cs.length + 1 := by omega
      subst e1
      rw [List.getElem?_append_right (by rw [rowsD_length]; exact Nat.le_refl _), rowsD_length, Nat.sub_self, List.take_of_length_le (by simp)]
      rfl
theorem lets_get : ∀ {cs : List Ch} {n : Nat} {c : Ch}, cs[n]? = some c → (lets cs)[n]? = some (.change (n + 1) c (lof (cs.take n) c.key)) := by
  intro cs
  induction cs using snoc_ind with
  | h0 =>
    intro n c h
    simp at h
  | h1 cs d ih =>
    intro n c h
    rw [lets_snoc]
    have hn : n < cs.length + 1 := by
      have := (List.getElem?_eq_some_iff.mp h).1
      simpa using this
    by_cases e : n < cs.length
    · rw [List.getElem?_append_left (by rw [lets_length]; exact e), List.take_append_of_le_length (Nat.le_of_lt e)]
      rw [List.getElem?_append_left e] at h
      exact ih h
    · have e1 : n = cs.length := by omega
      subst e1
      rw [List.getElem?_append_right (Nat.le_refl _), Nat.sub_self] at h
      have e2 : d = c := by simpa using h
      subst e2
      rw [List.getElem?_append_right (by rw [lets_length]; exact Nat.le_refl _), lets_length, Nat.sub_self, List.take_append_of_le_length (Nat.le_refl _), List.take_of_length_le (Nat.le_refl _)]
      rfl
theorem set_cut {α : Type} (xs : List α) (k : Nat) (v : α) (h : k < xs.length) : xs.take k ++ [v] ++ xs.drop (k + 1) = xs.set k v := by
  rw [List.set_eq_take_append_cons_drop, if_pos h, List.append_assoc]
  rfl
theorem wrow_snoc (nk : Nat) (cs : List Ch) (c : Ch) : wrow nk (cs ++ [c]) = (wrow nk cs).set c.key (wst c.key (wof cs c.key) c) := by
  apply List.ext_getElem?
  intro i
  unfold wrow
  rw [List.getElem?_map]
  by_cases hi : i < nk
  · rw [List.getElem?_range hi]
    by_cases e : c.key = i
    · rw [e, List.getElem?_set_self (by simpa using hi)]
      simp [wof_snoc]
    · rw [List.getElem?_set_ne e, List.getElem?_map, List.getElem?_range hi]
      simp [wof_snoc, wst, e]
  · have h1 : (List.range nk)[i]? = none := by simp; omega
    have h2 : ((List.range nk).map (wof cs)).length ≤ i := by simp; omega
    rw [h1, List.getElem?_eq_none (by rw [List.length_set]; exact h2)]
    rfl
theorem lrow_snoc (nk : Nat) (cs : List Ch) (c : Ch) : lrow nk (cs ++ [c]) = (lrow nk cs).set c.key ((cs.length + 1 : Nat) : Int) := by
  apply List.ext_getElem?
  intro i
  unfold lrow
  rw [List.getElem?_map]
  by_cases hi : i < nk
  · rw [List.getElem?_range hi]
    by_cases e : c.key = i
    · rw [e, List.getElem?_set_self (by simpa using hi)]
      simp [lof_snoc, e]
    · rw [List.getElem?_set_ne e, List.getElem?_map, List.getElem?_range hi]
      simp [lof_snoc, e]
  · have h1 : (List.range nk)[i]? = none := by simp; omega
    have h2 : ((List.range nk).map fun k => (lof cs k : Int)).length ≤ i := by simp; omega
    rw [h1, List.getElem?_eq_none (by rw [List.length_set]; exact h2)]
    rfl
theorem wrow_get {nk k : Nat} {cs : List Ch} (h : k < nk) : (wrow nk cs)[k]? = some (wof cs k) := by
  unfold wrow
  rw [List.getElem?_map, List.getElem?_range h]
  rfl
theorem lrow_get {nk k : Nat} {cs : List Ch} (h : k < nk) : (lrow nk cs)[k]? = some (lof cs k : Int) := by
  unfold lrow
  rw [List.getElem?_map, List.getElem?_range h]
  rfl
theorem wrow_len (nk : Nat) (cs : List Ch) : (wrow nk cs).length = nk := by simp [wrow]
theorem lrow_len (nk : Nat) (cs : List Ch) : (lrow nk cs).length = nk := by simp [lrow]
theorem wrow_nil (nk : Nat) : wrow nk [] = List.replicate nk 0 := by
  apply List.ext_getElem?
  intro i
  by_cases hi : i < nk
  · rw [wrow_get hi, List.getElem?_replicate, if_pos hi]
    rfl
  · rw [List.getElem?_eq_none (by rw [wrow_len]; omega), List.getElem?_eq_none (by simp; omega)]
theorem lrow_nil (nk : Nat) : lrow nk [] = List.replicate nk 0 := by
  apply List.ext_getElem?
  intro i
  by_cases hi : i < nk
  · rw [lrow_get hi, List.getElem?_replicate, if_pos hi]
    rfl
  · rw [List.getElem?_eq_none (by rw [lrow_len]; omega), List.getElem?_eq_none (by simp; omega)]
theorem take_snoc {α : Type} {xs : List α} {i : Nat} {x : α} (h : xs[i]? = some x) : xs.take (i + 1) = xs.take i ++ [x] := by
  rw [List.take_add_one, h]
  rfl

section
variable {K : PySem.W.Frag} {H H' : Hp}
theorem RpL.snoc_inv : ∀ {ds : List PyData} {d : PyData} {vs : List V}, RpL K H (ds ++ [d]) vs → ∃ us v, vs = us ++ [v] ∧ RpL K H ds us ∧ Rp K H d v
  | [], d, vs, h => by
    obtain ⟨v, r, e, h1, h2⟩ := RpL.cons_inv (show RpL K H [d] vs from h)
    have := h2.nil_inv
    subst this
    exact ⟨[], v, e, .nil, h1⟩
  | c :: ds, d, vs, h => by
    obtain ⟨v, r, e, h1, h2⟩ := RpL.cons_inv (show RpL K H (c :: (ds ++ [d])) vs from h)
    obtain ⟨us, u, e2, h3, h4⟩ := RpL.snoc_inv h2
    subst e2
    exact ⟨v :: us, u, e, .cons h1 h3, h4⟩
/-- a list of ints that stays -/
theorem Rp.il_inv {ns : List Int} {v : V} (h : Rp K H (ilst ns) v) : ∃ a, v = .ref a ∧ FzL K H a (ns.map V.int) := by
  obtain ⟨a, xs, e, f, r⟩ := h.lst_inv
  rw [r.ints] at f
  exact ⟨a, e, f⟩
theorem Rp.il {ns : List Int} {a : Addr} (h : FzL K H a (ns.map V.int)) : Rp K H (ilst ns) (.ref a) := .lst h (RpL.of_ints ns)
theorem Rp.ch_inv {c : Ch} {v : V} (h : Rp K H c.enc v) : ∃ a, v = .ref a ∧ H a = some (.tup [.int c.key, .str (wd c.set), .int c.worth]) := by
  obtain ⟨a, xs, e, f, r⟩ := h.tup_inv
  obtain ⟨v1, r1, e1, h1, r⟩ := r.cons_inv
  obtain ⟨v2, r2, e2, h2, r⟩ := r.cons_inv
  obtain ⟨v3, r3, e3, h3, r⟩ := r.cons_inv
  have := r.nil_inv
  subst this e3 e2 e1
  have h1 := Rp.int_iff.mp h1
  have h2 := Rp.str_iff.mp h2
  have h3 := Rp.int_iff.mp h3
  subst h1 h2 h3
  exact ⟨a, e, f⟩
theorem Rp.row_inv {nk : Nat} {cs : List Ch} {v : V} (h : Rp K H (rowD nk cs) v) : ∃ a p q, v = .ref a ∧ H a = some (.tup [.ref p, .ref q]) ∧ FzL K H p ((wrow nk cs).map V.int) ∧ FzL K H q ((lrow nk cs).map V.int) := by
  obtain ⟨a, xs, e, f, r⟩ := h.tup_inv
  obtain ⟨v1, r1, e1, h1, r⟩ := r.cons_inv
  obtain ⟨v2, r2, e2, h2, r⟩ := r.cons_inv
  have := r.nil_inv
  subst this e2 e1
  obtain ⟨p, e1, f1⟩ := h1.il_inv
  obtain ⟨q, e2, f2⟩ := h2.il_inv
  subst e1 e2
  exact ⟨a, p, q, e, f, f1, f2⟩
theorem Rp.row {nk : Nat} {cs : List Ch} {a p q : Addr} (h : H a = some (.tup [.ref p, .ref q])) (f1 : FzL K H p ((wrow nk cs).map V.int)) (f2 : FzL K H q ((lrow nk cs).map V.int)) : Rp K H (rowD nk cs) (.ref a) :=
  .tup h (.cons (.il f1) (.cons (.il f2) .nil))
end
theorem Dice.use {K : PySem.W.Frag} {H : Hp} {a : Addr} {R : Lg} (d : Dice K H a R) : ∃ R0, Has H R0 ∧ ∀ H', Mono H H' → Has H' R0 → Dice K H' a R :=
  let ⟨c, ns, i, m, r, h1, h2, h3, h⟩ := d
  ⟨_, h, fun _ m' h' => ⟨c, ns, i, m, r, h1, h2, h3.mono m', h'⟩⟩
end Cu

namespace Cu
open PySem PySem.Spec PyProof.Rows L2
/-- what is owned goes from C to C', whatever else is owned; nothing else changes -/
structure Tr (H : Hp) (C : Lg) (H' : Hp) (C' : Lg) : Prop where
  mono : Mono H H'
  has : ∀ R, Has H (C ++ R) → Has H' (C' ++ R)
abbrev Grow (H H' : Hp) : Prop := Tr H [] H' []
section
variable {K : PySem.W.Frag} {H H1 H2 : Hp} {C C1 C2 D : Lg} {a p : Addr} {o o' : HO} {R : Lg}
theorem Tr.refl (H : Hp) (C : Lg) : Tr H C H C := ⟨Mono.refl H, fun _ h => h⟩
theorem Tr.trans (t : Tr H C H1 C1) (u : Tr H1 C1 H2 C2) : Tr H C H2 C2 := ⟨t.mono.trans u.mono, fun R h => u.has R (t.has R h)⟩
theorem Tr.right (t : Tr H C H1 C1) : Tr H (C ++ D) H1 (C1 ++ D) := ⟨t.mono, fun R h => by
  rw [List.append_assoc] at h ⊢
  exact t.has _ h⟩
theorem Tr.left (t : Tr H C H1 C1) : Tr H (D ++ C) H1 (D ++ C1) := ⟨t.mono, fun R h => by
  rw [List.append_assoc] at h ⊢
  exact (t.has _ h.swap).swap⟩
theorem Tr.now (t : Tr H C H1 C1) (h : Has H C) : Has H1 C1 := by
  have := t.has [] (by rw [List.append_nil]; exact h)
  rwa [List.append_nil] at this
theorem Tr.own (t : Tr H [] H1 C1) : Has H1 C1 := t.now .nil
theorem Tr.grow (t : Tr H C H1 C1) (g : Grow H1 H2) : Tr H C H2 C1 := t.trans (by simpa using g.right (D := C1))
theorem Tr.new (t : Tr H C H1 C1) (f : H1 p = none) (n : ¬ Imm o) : Tr H C (upd H1 p o) ((p, o) :: C1) := ⟨t.mono.trans (Mono.new f), fun R h => (t.has R h).new f n⟩
theorem Tr.old (t : Tr H C H1 C1) (f : H1 p = none) : Tr H C (upd H1 p o) C1 := ⟨t.mono.trans (Mono.new f), fun R h => (t.has R h).old f⟩
theorem Tr.put (t : Tr H C H1 ((p, o) :: C1)) (h : Has H C) (n : ¬ Imm o') : Tr H C (upd H1 p o') ((p, o') :: C1) := ⟨t.mono.trans (t.now h).mono_put, fun R h => (t.has R h).put n⟩
theorem Tr.fz {xs : List V} {ob : Obj} (t : Tr H C H1 ((p, .lst xs) :: C1)) (h : Has H C) : Tr H C (upd H1 p (.frz ob (.lst xs))) C1 :=
  ⟨t.mono.trans (t.now h).mono_put, fun R h => (t.has R h).tail.off (List.nodup_cons.mp (t.has R h).nd).1⟩
theorem Tr.perm (t : Tr H C H1 C1) (e : C1.Perm C2) : Tr H C H1 C2 := ⟨t.mono, fun R h => (t.has R h).perm (e.append_right R)⟩
theorem Tr.sub (t : Tr H C H1 C1) (e : C2.Sublist C1) : Tr H C H1 C2 := ⟨t.mono, fun R h => (t.has R h).sub (e.append_right R)⟩
theorem Tr.tail (t : Tr H C H1 ((p, o) :: C1)) : Tr H C H1 C1 := t.sub (List.sublist_cons_self _ _)
theorem Tr.swap2 {q r : Addr × HO} (t : Tr H C H1 (q :: r :: C1)) : Tr H C H1 (r :: q :: C1) := t.perm (List.Perm.swap _ _ _)
/-- a new list, frozen at once -/
theorem Tr.nfz {xs : List V} {ob : Obj} (t : Tr H C H1 C1) (f : H1 p = none) : Tr H C (upd (upd H1 p (.lst xs)) p (.frz ob (.lst xs))) C1 :=
  ⟨t.mono.trans ((Mono.new f).trans (Mono.put upd_same fun h => h)), fun R h => ((t.has R h).old f).off ((t.has R h).notin f)⟩
theorem Grow.mono' (g : Grow H H1) : Mono H H1 := g.mono
theorem Grow.has' (g : Grow H H1) (h : Has H R) : Has H1 R := g.has R h
theorem Grow.refl (H : Hp) : Grow H H := Tr.refl H []
theorem Grow.new (f : H p = none) : Grow H (upd H p o) := (Tr.refl H []).old f
/-- a new tuple goes to the end of an owned list -/
theorem snoc_tup {l t : Addr} {ys us : List V} {ds : List PyData} (h : Has H ((l, .lst ys) :: C)) (ht : H t = none) (r : RpL K H ds us) :
    Tr H ((l, .lst ys) :: C) (upd (upd H t (.tup us)) l (.lst (ys ++ [.ref t]))) ((l, .lst (ys ++ [.ref t])) :: C) ∧ Rp K (upd (upd H t (.tup us)) l (.lst (ys ++ [.ref t]))) (.tuple ds) (.ref t) := by
  have s1 := (Tr.refl H ((l, .lst ys) :: C)).old (o := .tup us) ht
  have s2 := s1.put (o' := .lst (ys ++ [.ref t])) h nl
  exact ⟨s2, .tup ((s1.now h).mono_put _ _ upd_same trivial) (r.mono s2.mono)⟩
theorem Dice.grow (d : Dice K H a R) (g : Grow H H1) : Dice K H1 a R := by
  obtain ⟨R0, h0, back⟩ := d.use
  exact back _ g.mono (g.has _ h0)
theorem Dice.tr (d : Dice K H a (C ++ R)) (t : Tr H C H1 C1) : Dice K H1 a (C1 ++ R) :=
  let ⟨c, ns, i, m, r, h1, h2, h3, h⟩ := d
  ⟨c, ns, i, m, r, h1, h2, h3.mono t.mono, by
    have := t.has ((a, .lst [.ref c, .int i, .int m, .int r]) :: R) h.swap1
    exact this.unswap1⟩
theorem Dice.tr0 (d : Dice K H a C) (t : Tr H C H1 C1) : Dice K H1 a C1 := by
  have := Dice.tr (R := []) (by rw [List.append_nil]; exact d) t
  rwa [List.append_nil] at this
end
end Cu

namespace Cu
open PySem PySem.Spec PyProof.Rows L2
/-! data that may be compared -/
def Gd (n : Nat) (d : PyData) : Prop := d.canLay0 = true ∧ d.depth ≤ n
theorem Gd.mono {n m : Nat} {d : PyData} (h : Gd n d) (e : n ≤ m) : Gd m d := ⟨h.1, Nat.le_trans h.2 e⟩
theorem Gd.int {n : Nat} {i : Int} : Gd n (.int i) := ⟨by simp [PyData.canLay0], by simp [PyData.depth]⟩
theorem Gd.none {n : Nat} : Gd n .none := ⟨by simp [PyData.canLay0], by simp [PyData.depth]⟩
theorem Gd.bool {n : Nat} {b : Bool} : Gd n (.bool b) := ⟨by simp [PyData.canLay0], by simp [PyData.depth]⟩
theorem Gd.str {n : Nat} {s : Str} (h : PyData.strOk s = true) : Gd n (.str s) := ⟨by simpa [PyData.canLay0] using h, by simp [PyData.depth]⟩
theorem canAll : ∀ {ds : List PyData}, (∀ d ∈ ds, d.canLay0 = true) → PyData.canLayAll0 ds = true
  | [], _ => by simp [PyData.canLayAll0]
  | d :: ds, h => by
    simp only [PyData.canLayAll0, Bool.and_eq_true]
    exact ⟨h d List.mem_cons_self, canAll fun e he => h e (List.mem_cons_of_mem _ he)⟩
theorem depthAll_le {n : Nat} : ∀ {ds : List PyData}, (∀ d ∈ ds, d.depth ≤ n) → PyData.depthAll ds ≤ n
  | [], _ => by simp [PyData.depthAll]
  | d :: ds, h => by
    simp only [PyData.depthAll]
    exact Nat.max_le.mpr ⟨h d List.mem_cons_self, depthAll_le fun e he => h e (List.mem_cons_of_mem _ he)⟩
theorem Gd.list {n : Nat} {ds : List PyData} (h : ∀ d ∈ ds, Gd n d) : Gd (n + 1) (.list ds) := by
  refine ⟨?_, ?_⟩
  · simp only [PyData.canLay0]
    exact canAll fun d hd => (h d hd).1
  · simp only [PyData.depth]
    have := depthAll_le fun d hd => (h d hd).2
    omega
theorem Gd.tuple {n : Nat} {ds : List PyData} (h : ∀ d ∈ ds, Gd n d) : Gd (n + 1) (.tuple ds) := by
  refine ⟨?_, ?_⟩
  · simp only [PyData.canLay0]
    exact canAll fun d hd => (h d hd).1
  · simp only [PyData.depth]
    have := depthAll_le fun d hd => (h d hd).2
    omega
theorem Gd.all_nil {n : Nat} : ∀ d ∈ ([] : List PyData), Gd n d := fun _ h => (nomatch h)
theorem Gd.all_cons {n : Nat} {d : PyData} {ds : List PyData} (h : Gd n d) (r : ∀ d ∈ ds, Gd n d) : ∀ e ∈ d :: ds, Gd n e := fun e he => by
  rcases List.mem_cons.mp he with rfl | he
  · exact h
  · exact r e he
theorem Gd.shaped {n : Nat} {d : PyData} (h : Gd n d) (e : n ≤ 64 := by decide) : SeqAt.shaped d = true := by
  unfold SeqAt.shaped
  rw [Bool.and_eq_true]
  exact ⟨h.1, decide_eq_true (Nat.le_trans h.2 e)⟩
theorem Gd.refl {n : Nat} {d : PyData} (h : Gd n d) : PyData.eqv d d = true := SeqAt.eqv_refl d h.1
theorem Gd.ilst {n : Nat} (ns : List Int) : Gd (n + 1) (ilst ns) := .list fun d hd => by
  obtain ⟨i, _, rfl⟩ := List.mem_map.mp hd
  exact .int
theorem wd_ok (b : Bool) : PyData.strOk (wd b) = true := by cases b <;> decide +kernel
theorem Gd.letter (l : Letter) : Gd 4 l.enc := by
  cases l with
  | change n c ahead => exact .tuple (.all_cons (.str (by decide +kernel)) (.all_cons .int (.all_cons .int (.all_cons (.str (wd_ok _)) (.all_cons .int (.all_cons .int .all_nil))))))
  | part n b rows =>
    refine .tuple (.all_cons (.str (by decide +kernel)) (.all_cons .int (.all_cons .int (.all_cons (.tuple fun d hd => ?_) .all_nil))))
    obtain ⟨r, _, rfl⟩ := List.mem_map.mp hd
    exact .tuple (.all_cons .int (.all_cons .int .all_nil))
  | beat n lasts =>
    refine .tuple (.all_cons (.str (by decide +kernel)) (.all_cons .int (.all_cons (.tuple fun d hd => ?_) .all_nil)))
    obtain ⟨r, _, rfl⟩ := List.mem_map.mp hd
    exact .int
theorem Gd.letters (ls : List Letter) : Gd 5 (.list (ls.map Letter.enc)) := .list fun d hd => by
  obtain ⟨l, _, rfl⟩ := List.mem_map.mp hd
  exact .letter l
theorem Gd.nil {n : Nat} : Gd (n + 1) (.list []) := .list .all_nil
theorem eqv_nil (ds : List PyData) : PyData.eqv (.list ds) (.list []) = ds.isEmpty := by
  cases ds <;> simp [PyData.eqv, PyData.eqvAll]
theorem eqv_ilst : ∀ {ns ms : List Int}, PyData.eqv (ilst ns) (ilst ms) = decide (ns = ms)
  | [], [] => by simp [ilst, PyData.eqv, PyData.eqvAll]
  | [], _ :: _ => by simp [ilst, PyData.eqv, PyData.eqvAll]
  | _ :: _, [] => by simp [ilst, PyData.eqv, PyData.eqvAll]
  | n :: ns, m :: ms => by
    have ih := eqv_ilst (ns := ns) (ms := ms)
    simp only [ilst, PyData.eqv] at ih
    simp only [ilst, List.map_cons, PyData.eqv, PyData.eqvAll, ih]
    by_cases h : n = m <;> simp [h]
theorem Dp.nil {K : PySem.W.Frag} {H : Hp} {a : Addr} (h : H a = some (.lst [])) : Dp K H (.ref a) (.list []) := .lst (SqL.of h) .nil
theorem cutV_to {xs : List V} {k : Nat} (h : k ≤ xs.length) : cutV xs none (some (k : Int)) = xs.take k := by
  unfold cutV
  rw [HT.sIx_none, HT.sIx_nat, Nat.min_eq_left h, List.drop_zero, Nat.sub_zero]
theorem cutV_from {xs : List V} {k : Nat} (h : k ≤ xs.length) : cutV xs (some (k : Int)) none = xs.drop k := by
  unfold cutV
  rw [HT.sIx_none, HT.sIx_nat, Nat.min_eq_left h, List.take_of_length_le (by simp)]
end Cu

namespace Cu
open PySem PySem.Spec PyProof.Rows L2
abbrev s_story : Stmt := (top 25)
theorem sc_story : FnScope ["_law_keys", "_law_changes_here", "_law_rows", "_law_letters", "_law_k", "_law_key", "_law_word", "_law_worth_here", "_law_worths", "_law_lasts", "_law_more"] ["_law_keys", "_law_changes_here"] (defScope s_story) := ⟨rfl, rfl, rfl, by decide +kernel, rfl, by decide +kernel, by decide +kernel⟩

def storyD (nk : Nat) (cs : List Ch) : PyData := .tuple [.list (rowsD nk cs), .list ((lets cs).map Letter.enc)]
def spStory (K : PySem.W.Frag) : Sp := fun vs H Q _ => vs.length = 2 ∧ ∃ (nk : Nat) (cs : List Ch) (v : V), vs = [.int nk, v] ∧ nk ≤ 8 ∧ cs.length ≤ 1000 ∧ (∀ c ∈ cs, c.key < nk) ∧ Rp K H (.list (cs.map Ch.enc)) v ∧
  ∀ (u : V) (H' : Hp), Grow H H' → Rp K H' (storyD nk cs) u → Q u H'
theorem rep0 (nk : Nat) : (List.replicate ((nk : Int).toNat) [V.int 0]).flatten = (List.replicate nk (0 : Int)).map V.int := by
  rw [Int.toNat_natCast, List.map_replicate]
  induction nk with
  | zero => rfl
  | succ n ih =>
    rw [List.replicate_succ, List.replicate_succ, List.flatten_cons, ih]
    rfl
/-- [0] * keys, from now on never changed -/
theorem rd_zeros {K : PySem.W.Frag} {σ : L2.St} {H : Hp} {Q : VK} {i nk : Nat} (h1 : σ[i]? = some (some (.int nk))) (hk : nk ≤ 8)
    (q : ∀ p H', Grow H H' → FzL K H' p ((List.replicate nk (0 : Int)).map V.int) → Q (.ref p) H') :
    tFz (tOp rRep (tLst (tCons (tC (.int 0)) tNil)) (tVar i)) σ H Q := by
  refine rd_fz ⟨(by show 1 ≤ sizeLine; decide), fun p1 hp1 => ⟨_, h1, p1, (nk : Int), _, rfl, rfl, upd_same, by omega, by omega, ?_, fun p2 hp2 => ⟨_, _, rfl, upd_same, fun o => ?_⟩⟩⟩
  · show 1 * (nk : Int).toNat ≤ sizeLine
    rw [Nat.one_mul, Int.toNat_natCast]
    exact Nat.le_trans hk (by decide)
  · rw [rep0]
    exact q _ _ ((Grow.new hp1).nfz hp2) FzL.frz
/-- xs[:k] + [z] + xs[k + 1:], from now on never changed -/
theorem rd_cut {K : PySem.W.Frag} {σ : L2.St} {H : Hp} {Q : VK} {i j : Nat} {te : TE} {a : Addr} {ns : List Int} {k : Nat} {z : Int} (h1 : σ[i]? = some (some (.ref a))) (h2 : σ[j]? = some (some (.int k))) (f : FzL K H a (ns.map V.int))
    (hk : k < ns.length) (hl : ns.length ≤ 1000) (he : ∀ (H1 : Hp) (Q1 : VK), Q1 (.int z) H1 → te σ H1 Q1) (q : ∀ p H', Grow H H' → FzL K H' p ((ns.set k z).map V.int) → Q (.ref p) H') :
    tFz (tOp rCat (tOp rCat (tSl (rSlL K) (tVar i) tNoPart (tPart (tVar j))) (tLst (tCons te tNil))) (tSl (rSlL K) (tVar i) (tPart (tOp (rI0 fun i j => .int (i + j)) (tVar j) (tC (.int 1)))) tNoPart)) σ H Q := by
  have hk' : k < (ns.map V.int).length := by rw [List.length_map]; exact hk
  have hl' : (ns.map V.int).length ≤ 1000 := by rw [List.length_map]; exact hl
  have z1 : 1000 ≤ sizeLine := by decide
  refine rd_fz ⟨_, h1, _, h2, _, rfl, a, _, rfl, f.sq, fun p1 hp1 => he _ _ ⟨(by show 1 ≤ sizeLine; decide), fun p2 hp2 => ?_⟩⟩
  have n12 : p1 ≠ p2 := ne_of_none upd_same hp2
  rw [cutV_to (Nat.le_of_lt hk')] at hp2 ⊢
  refine ⟨_, _, _, _, rfl, rfl, (by rw [upd_ne n12]; exact upd_same), upd_same, ?_, fun p3 hp3 => ?_⟩
  · rw [List.length_take, Nat.min_eq_left (Nat.le_of_lt hk')]
    exact Nat.le_trans (show k + 1 ≤ 1000 by omega) z1
  have g1 := (((Grow.refl H).old (o := .lst ((ns.map V.int).take k)) hp1).old (o := .lst [.int z]) hp2).old (o := .lst ((ns.map V.int).take k ++ [.int z])) hp3
  refine ⟨_, h1, _, h2, _, _, rfl, rfl, _, rfl, a, _, rfl, (f.mono g1.mono).sq, fun p4 hp4 => ?_⟩
  have e1 : ((k : Int) + 1) = ((k + 1 : Nat) : Int) := by omega
  rw [e1, cutV_from hk']
  have n34 : p3 ≠ p4 := ne_of_none upd_same hp4
  refine ⟨_, _, _, _, rfl, rfl, (by rw [upd_ne n34]; exact upd_same), upd_same, ?_, fun p5 hp5 => ⟨_, _, rfl, upd_same, fun o => ?_⟩⟩
  · rw [List.length_append, List.length_take, List.length_drop, Nat.min_eq_left (Nat.le_of_lt hk')]
    exact Nat.le_trans (show k + 1 + _ ≤ 1000 by omega) z1
  rw [set_cut _ _ _ hk', ← List.map_set]
  exact q _ _ ((g1.old hp4).nfz hp5) FzL.frz
section
variable {P : Program} {w : World} {K : PySem.W.Frag} {mg : Str → Option Value} {base : Heap}
theorem ok_story (F : Fd K mg "_law_story" s_story) (Bm : Blt mg) : Gf P w K mg base 1 "_law_story" ["_law_keys", "_law_changes_here"] (spStory K) := by
  refine F.ok sc_story (fun _ _ _ _ _ _ us hl => match us, hl with | [_, _], _ => rfl) len_of fun qual f cdv A outer s H vs Q E hr h => ?_
  obtain ⟨_, nk, cs, v, rfl, hk, hlen, hcs, hv, k⟩ := h
  obtain ⟨a, xc, rfl, fc, rc⟩ := hv.lst_inv
  have hxc : xc.length = cs.length := by rw [rc.length, List.length_map]
  refine ⟨_, (pss_cons (ps_set (i := 2) sc_story.nd rfl (Or.inl rfl) (pe_lst (pa_cons (pe_tup (pa_cons (pe_fz (pe_op op_rep (pe_lst (pa_cons pe_int pa_nil)) (pv 0))) (pa_cons (pe_fz (pe_op op_rep (pe_lst (pa_cons pe_int pa_nil)) (pv 0))) pa_nil))) pa_nil)))
      (pss_cons (ps_set (i := 3) sc_story.nd rfl (Or.inl rfl) (pe_lst pa_nil))
      (pss_cons (ps_for PassesOwn.never rfl (pi_range1 rfl Bm.range (pa_cons (pe_callB call_len_seq rfl Bm.len (by decide +kernel) (pa_cons (pv 1) pa_nil)) pa_nil)) (pg_name (i := 4) sc_story.nd rfl (Or.inl rfl))
        (pss_cons (ps_asg (pe_ix ix_list (pv 1) (pv 4) (fun _ _ => rfl)) (pg_tup rfl (pgs_cons (pg_name (i := 5) sc_story.nd rfl (Or.inl rfl)) (pgs_cons (pg_name (i := 6) sc_story.nd rfl (Or.inl rfl)) (pgs_cons (pg_name (i := 7) sc_story.nd rfl (Or.inl rfl)) pgs_nil)))))
        (pss_cons (ps_asg (pe_ix ix_list (pv 2) (pe_un un_neg pe_int) (fun _ _ => rfl)) (pg_tup rfl (pgs_cons (pg_name (i := 8) sc_story.nd rfl (Or.inl rfl)) (pgs_cons (pg_name (i := 9) sc_story.nd rfl (Or.inl rfl)) pgs_nil))))
        (pss_cons (ps_expr (pe_bm PySem.F.plainAttrs_list PySem.F.slot_list_append PySem.F.type_list_append mt_append (pv 3) (pa_cons (pe_tup (pa_cons pe_str (pa_cons (pe_op op_add (pv 4) pe_int) (pa_cons (pv 5) (pa_cons (pv 6) (pa_cons (pv 7) (pa_cons (pe_ix ix_list (pv 9) (pv 5) (fun _ _ => rfl)) pa_nil))))))) pa_nil)))
        (pss_cons (ps_set (i := 10) sc_story.nd rfl (Or.inl rfl) (pe_op op_add (pe_op op_mul (pe_ix ix_list (pv 8) (pv 5) (fun _ _ => rfl)) (pe_callTy call_int1 rfl Bm.int (by decide +kernel) (pa_cons (pe_cmpR op_eq (pv 6) pe_str (nomark _)) pa_nil))) (pv 7)))
        (pss_one (ps_expr (pe_bm PySem.F.plainAttrs_list PySem.F.slot_list_append PySem.F.type_list_append mt_append (pv 2) (pa_cons (pe_tup (pa_cons (pe_fz (pe_op op_cat (pe_op op_cat (pe_slice sl_list (pv 8) po_none (po_some (pv 5))) (pe_lst (pa_cons (pv 10) pa_nil))) (pe_slice sl_list (pv 8) (po_some (pe_op op_add (pv 5) pe_int)) po_none))) (pa_cons (pe_fz (pe_op op_cat (pe_op op_cat (pe_slice sl_list (pv 9) po_none (po_some (pv 5))) (pe_lst (pa_cons (pe_op op_add (pv 4) pe_int) pa_nil))) (pe_slice sl_list (pv 9) (po_some (pe_op op_add (pv 5) pe_int)) po_none))) pa_nil))) pa_nil)))))))))
      (pss_one (ps_ret (pe_tup (pa_cons (pe_fz (pv 2)) (pa_cons (pe_fz (pv 3)) pa_nil)))))))), ?_⟩
  refine rd_zeros (K := K) (by rfl) hk fun p1 H1 g1 f1 => ?_
  refine rd_zeros (K := K) (by rfl) hk fun p2 H2 g2 f2 => ?_
  refine ⟨(by show 2 ≤ sizeLine; decide), fun t ht => ⟨(by show 1 ≤ sizeLine; decide), fun r hr' => ⟨(by show 0 ≤ sizeLine; decide), fun l hl => ?_⟩⟩⟩
  have t1 : Tr H [] (upd (upd (upd H2 t (.tup [.ref p1, .ref p2])) r (.lst [.ref t])) l (.lst [])) [(l, .lst []), (r, .lst [.ref t])] := (((g1.trans g2).old ht).new hr' nl).new hl nl
  have mt : Mono H2 (upd (upd (upd H2 t (.tup [.ref p1, .ref p2])) r (.lst [.ref t])) l (.lst [])) := ((Mono.new ht).trans (Mono.new hr')).trans (Mono.new hl)
  refine ⟨_, rfl, a, xc, rfl, .inl (fc.mono t1.mono).sq, _, rfl, by omega, by omega, for_range (lo := 0) (n := (xc.length : Int).toNat) (fun i σ H3 => ∃ (xs ys : List V) (v4 v5 v6 v7 v8 v9 v10 : Option V),
    σ = [some (.int nk), some (.ref a), some (.ref r), some (.ref l), v4, v5, v6, v7, v8, v9, v10] ∧ Tr H [] H3 [(l, .lst ys), (r, .lst xs)] ∧ RpL K H3 (rowsD nk (cs.take i)) xs ∧ RpL K H3 ((lets (cs.take i)).map Letter.enc) ys)
    ⟨[.ref t], [], none, none, none, none, none, none, none, rfl, t1, ?_, ?_⟩ ?_ ?_⟩
  · refine .cons (.row (p := p1) (q := p2) (((Mono.new hr').trans (Mono.new hl)) _ _ upd_same trivial) ?_ ?_) .nil
    · show FzL K _ p1 ((wrow nk []).map V.int)
      rw [wrow_nil]
      exact f1.mono (g2.mono.trans mt)
    · show FzL K _ p2 ((lrow nk []).map V.int)
      rw [lrow_nil]
      exact f2.mono mt
  · exact .nil
  · rintro i σ H3 hi ⟨xs, ys, v4, v5, v6, v7, v8, v9, v10, rfl, t3, rx, ry⟩
    have hi' : i < cs.length := by omega
    obtain ⟨c, hc⟩ : ∃ c, cs[i]? = some c := ⟨cs[i], List.getElem?_eq_getElem hi'⟩
    have hck : c.key < nk := hcs c (List.mem_of_getElem? hc)
    obtain ⟨u, hu, ru⟩ := (rc.mono t3.mono).get (i := i) (d := c.enc) (by rw [List.getElem?_map, hc]; rfl)
    obtain ⟨ac, rfl, hac⟩ := ru.ch_inv
    obtain ⟨init, hinit⟩ := rowsD_last nk (cs.take i)
    rw [hinit] at rx
    obtain ⟨us, w1, rfl, rus, rw1⟩ := rx.snoc_inv
    obtain ⟨ar, pw, pl, rfl, har, fw, fl⟩ := rw1.row_inv
    have hh := t3.own
    have hitake : (cs.take i).length = i := by rw [List.length_take]; omega
    -- key, word, worth = changes[k]
    refine ⟨_, rfl, _, rfl, a, xc, _, _, rfl, rfl, (fc.mono t3.mono).sq, at_of (by omega) hu, ac, _, rfl, SqT.of hac, rfl, _, _, rfl, _, _, rfl, _, _, rfl, rfl, ?_⟩
    -- worths, lasts = rows[-1]
    refine ⟨_, rfl, _, rfl, r, _, _, _, rfl, rfl, SqL.of hh.tail.head, atI_last _ _, ar, _, rfl, SqT.of har, rfl, _, _, rfl, _, _, rfl, rfl, ?_⟩
    -- letters.append(..)
    have gl : (lrow nk (cs.take i))[c.key]? = some (lof (cs.take i) c.key : Int) := lrow_get hck
    have gw : (wrow nk (cs.take i))[c.key]? = some (wof (cs.take i) c.key) := wrow_get hck
    refine ⟨_, rfl, .inl ⟨rfl, _, SqL.of hh.head⟩, _, rfl, _, _, rfl, rfl, _, rfl, _, rfl, _, rfl, _, rfl, _, rfl, pl, _, _, _, rfl, rfl, fl.sq, at_of (j := c.key) rfl (by rw [List.getElem?_map, gl]; rfl), ⟨(by show 6 ≤ sizeLine; decide), fun tl htl => ?_⟩⟩
    have hy : ys.length = i := by rw [ry.length, List.length_map, lets_length, hitake]
    obtain ⟨s5, rtl⟩ := snoc_tup (K := K) (ds := [.str "change", .int (0 + i + 1), .int c.key, .str (wd c.set), .int c.worth, .int (lof (cs.take i) c.key)]) hh htl (.cons .str (.cons .int (.cons .int (.cons .str (.cons .int (.cons .int .nil))))))
    have e1 : ((0 : Int) + i + 1) = ((i + 1 : Nat) : Int) := by omega
    have ed : Letter.enc (.change (i + 1) c (lof (cs.take i) c.key)) = .tuple [.str "change", .int (0 + i + 1), .int c.key, .str (wd c.set), .int c.worth, .int (lof (cs.take i) c.key)] := by
      rw [e1]
      rfl
    rw [← ed] at rtl
    refine ⟨_, _, _, rfl, rfl, by rw [upd_ne (ne_of_none hh.head htl)]; exact hh.head, (by rw [hy]; exact small1000 (by omega)), ?_⟩
    have t5 := t3.trans s5
    have m5 := s5.mono
    -- more = worths[key] * int(word == 'add') + worth
    refine ⟨_, rfl, _, rfl, pw, _, _, _, rfl, rfl, (fw.mono m5).sq, at_of (j := c.key) rfl (by rw [List.getElem?_map, gw]; rfl), _, rfl, rfl, .inr ⟨_, rfl, _, _, rfl, rfl, .inr (by split <;> exact ⟨by decide, by decide⟩), _, rfl, _, _, rfl, rfl, ?_⟩⟩
    have emore : wof (cs.take i) c.key * (if decide (V.str (wd c.set) = V.str "add") = true then 1 else 0) + c.worth = wst c.key (wof (cs.take i) c.key) c := by
      unfold wst
      rw [if_pos rfl]
      cases c.set with
      | true =>
        rw [if_neg (by decide +kernel), if_pos rfl, Int.mul_zero]
      | false =>
        rw [if_pos (by decide +kernel), if_neg (by decide), Int.mul_one]
    -- rows.append(..)
    refine ⟨_, rfl, .inl ⟨rfl, _, SqL.of t5.own.tail.head⟩, ?_⟩
    refine rd_cut (z := wof (cs.take i) c.key * (if decide (V.str (wd c.set) = V.str "add") = true then 1 else 0) + c.worth) (by rfl) (by rfl) (fw.mono m5) (by rw [wrow_len]; exact hck) (by rw [wrow_len]; omega) (fun _ _ q => ⟨_, rfl, q⟩) fun p5 H5 g5 f5 => ?_
    rw [emore] at f5
    refine rd_cut (z := 0 + i + 1) (by rfl) (by rfl) (fl.mono (m5.trans g5.mono)) (by rw [lrow_len]; exact hck) (by rw [lrow_len]; omega) (fun _ _ q => ⟨_, rfl, _, _, rfl, rfl, q⟩) fun p6 H6 g6 f6 => ⟨(by show 2 ≤ sizeLine; decide), fun t7 ht7 => ?_⟩
    rw [e1] at f6
    have t6 := ((t5.grow g5).grow g6).swap2
    obtain ⟨s8, r8⟩ := snoc_tup (K := K) (ds := [ilst (wrow nk (cs.take i ++ [c])), ilst (lrow nk (cs.take i ++ [c]))]) (us := [.ref p5, .ref p6]) t6.own ht7 (.cons (.il (by rw [wrow_snoc]; exact f5.mono g6.mono)) (.cons (.il (by rw [lrow_snoc, hitake]; exact f6)) .nil))
    have hx : (us ++ [V.ref ar]).length = i + 1 := by
      have := (rus.snoc rw1).length
      rw [← hinit, rowsD_length, hitake] at this
      exact this
    refine ⟨_, _, _, rfl, rfl, by rw [upd_ne (ne_of_none t6.own.head ht7)]; exact t6.own.head, (by rw [hx]; exact small1000 (by omega)), ?_⟩
    have m8 := s8.mono
    refine ⟨us ++ [.ref ar] ++ [.ref t7], ys ++ [.ref tl], _, _, _, _, _, _, _, rfl, (t6.trans s8).swap2, ?_, ?_⟩
    · rw [take_snoc hc, rowsD_snoc, hinit]
      exact ((rus.snoc rw1).mono (((m5.trans g5.mono).trans g6.mono).trans m8)).snoc r8
    · rw [take_snoc hc, lets_snoc, hitake, List.map_append]
      exact ((ry.mono m5).snoc rtl).mono ((g5.mono.trans g6.mono).trans m8)
  · rintro σ H3 ⟨xs, ys, v4, v5, v6, v7, v8, v9, v10, rfl, t3, rx, ry⟩
    have e : cs.take ((xc.length : Int).toNat) = cs := List.take_of_length_le (by omega)
    rw [e] at rx ry
    have t3' := t3.swap2
    refine rd_fz ⟨_, rfl, _, _, rfl, t3'.own.head, fun o1 => ?_⟩
    have t4 := t3'.fz (ob := o1) .nil
    refine rd_fz ⟨_, rfl, _, _, rfl, t4.own.head, fun o2 => ?_⟩
    have t5 := t4.fz (ob := o2) .nil
    refine ⟨(by show 2 ≤ sizeLine; decide), fun t6 ht6 => ?_⟩
    refine k _ _ (t5.old ht6) (.tup upd_same (.cons (.lst ?_ (rx.mono ?_)) (.cons (.lst ?_ (ry.mono ?_)) .nil)))
    · exact (FzL.frz (xs := xs)).mono (t4.own.mono_put.trans (Mono.new ht6))
    · exact (t3'.own.mono_put.trans t4.own.mono_put).trans (Mono.new ht6)
    · exact (FzL.frz (xs := ys)).mono (Mono.new ht6)
    · exact (t3'.own.mono_put.trans t4.own.mono_put).trans (Mono.new ht6)
end
end Cu

namespace Cu
open PySem PySem.Spec PyProof.Rows L2
def partRows (cs : List Ch) (n b m : Nat) : List (Int × Nat) := (List.range m).map fun i => (wof (cs.take n) (b + i), lof (cs.take n) (b + i))
def partL (cs : List Ch) (n b e : Nat) : Letter := .part n b (partRows cs n b (e - b))
def beatL (nk : Nat) (cs : List Ch) (n : Nat) : Letter := .beat n ((List.range nk).map fun k => lof (cs.take n) k)
/-- a letter of a board of nk keys, with the story cs, as it was at some time -/
inductive IsLet (nk : Nat) (cs : List Ch) : Letter → Prop
  | change {n : Nat} {c : Ch} : cs[n]? = some c → IsLet nk cs (.change (n + 1) c (lof (cs.take n) c.key))
  | part {n b e : Nat} : n ≤ cs.length → b < e → e ≤ nk → IsLet nk cs (partL cs n b e)
  | beat {n : Nat} : n ≤ cs.length → IsLet nk cs (beatL nk cs n)
section
variable {K : PySem.W.Frag}
theorem Rp.str_of {H : Hp} {ls : List Letter} {v : V} (h : Rp K H (.list (ls.map Letter.enc)) v) : ∃ a xs, v = .ref a ∧ FzL K H a xs ∧ RpL K H (ls.map Letter.enc) xs ∧ xs.length = ls.length := by
  obtain ⟨a, xs, e, f, r⟩ := h.lst_inv
  exact ⟨a, xs, e, f, r, by rw [r.length, List.length_map]⟩
end
end Cu

namespace Cu
open PySem PySem.Spec PyProof.Rows L2
abbrev s_part : Stmt := (top 26)
theorem sc_part : FnScope ["_law_rows", "_law_number_here", "_law_begin", "_law_end", "_law_worths", "_law_lasts", "_law_key"] ["_law_rows", "_law_number_here", "_law_begin", "_law_end"] (defScope s_part) := ⟨rfl, rfl, rfl, by decide +kernel, rfl, by decide +kernel, by decide +kernel⟩

abbrev s_beat : Stmt := (top 27)
theorem sc_beat : FnScope ["_law_rows", "_law_number_here"] ["_law_rows", "_law_number_here"] (defScope s_beat) := ⟨rfl, rfl, rfl, by decide +kernel, rfl, by decide +kernel, by decide +kernel⟩

def spPart (K : PySem.W.Frag) : Sp := fun vs H Q _ => vs.length = 4 ∧ ∃ (nk n b e : Nat) (cs : List Ch) (v : V), vs = [v, .int n, .int b, .int e] ∧ nk ≤ 8 ∧ n ≤ cs.length ∧ b < e ∧ e ≤ nk ∧ Rp K H (.list (rowsD nk cs)) v ∧
  ∀ (u : V) (H' : Hp), Grow H H' → Rp K H' (partL cs n b e).enc u → Q u H'
def spBeat (K : PySem.W.Frag) : Sp := fun vs H Q _ => vs.length = 2 ∧ ∃ (nk n : Nat) (cs : List Ch) (v : V), vs = [v, .int n] ∧ nk ≤ 8 ∧ n ≤ cs.length ∧ Rp K H (.list (rowsD nk cs)) v ∧
  ∀ (u : V) (H' : Hp), Grow H H' → Rp K H' (beatL nk cs n).enc u → Q u H'
section
variable {P : Program} {w : World} {K : PySem.W.Frag} {mg : Str → Option Value} {base : Heap}
theorem ok_part (F : Fd K mg "_law_part" s_part) (Bm : Blt mg) : Gf P w K mg base 1 "_law_part" ["_law_rows", "_law_number_here", "_law_begin", "_law_end"] (spPart K) := by
  refine F.ok sc_part (fun _ _ _ _ _ _ us hl => match us, hl with | [_, _, _, _], _ => rfl) len_of fun qual f cdv A outer s H vs Q E hr h => ?_
  obtain ⟨_, nk, n, b, e, cs, v, rfl, hk, hn, hbe, hek, hv, k⟩ := h
  obtain ⟨a, xr, rfl, fr, rr⟩ := hv.lst_inv
  obtain ⟨u, hu, ru⟩ := rr.get (rowsD_get (nk := nk) hn)
  obtain ⟨ar, pw, pl, rfl, har, fw, fl⟩ := ru.row_inv
  refine ⟨_, (pss_cons (ps_asg (pe_ix ix_list (pv 0) (pv 1) (fun _ _ => rfl)) (pg_tup rfl (pgs_cons (pg_name (i := 4) sc_part.nd rfl (Or.inr rfl)) (pgs_cons (pg_name (i := 5) sc_part.nd rfl (Or.inr rfl)) pgs_nil))))
      (pss_one (ps_ret (pe_tup (pa_cons pe_str (pa_cons (pv 1) (pa_cons (pv 2) (pa_cons (pe_callTy call_tuple_of rfl Bm.tuple (by decide +kernel) (pa_cons (pe_lc (own := [("_law_key", 6)]) (g := (gName 6)) (tt := tYes) rfl sc_part.nd (pi_range2 rfl Bm.range (pa_cons (pv 2) (pa_cons (pv 3) pa_nil))) (blkOk_by (N := ["_law_rows", "_law_number_here", "_law_begin", "_law_end", "_law_worths", "_law_lasts", "_law_key"]) (sc := defScope s_part) (by decide +kernel)) (fun _ _ _ _ _ => (pg_name (i := 6) sc_part.nd rfl (Or.inl rfl))) (fun _ _ _ _ _ => pts_nil) (fun _ _ _ _ _ => (pe_tup (pa_cons (pe_ix (ix_listK K rfl) (pv 4) (pv 6) (fun _ _ => rfl)) (pa_cons (pe_ix (ix_listK K rfl) (pv 5) (pv 6) (fun _ _ => rfl)) pa_nil))))) pa_nil)) pa_nil)))))))), ?_⟩
  refine ⟨_, rfl, _, rfl, a, xr, _, _, rfl, rfl, fr.sq, at_of (j := n) rfl hu, ar, _, rfl, SqT.of har, rfl, _, _, rfl, _, _, rfl, rfl, ?_⟩
  refine ⟨_, rfl, _, rfl, _, rfl, _, rfl, _, _, rfl, ⟨by omega, by omega, by omega, by omega⟩, fun D hD => ?_⟩
  refine lc_range (lo := b) (n := ((e : Int) - b).toNat) (fun i H2 => ∃ xs, Tr H [] H2 [(D, .lst xs)] ∧ RpL K H2 ((partRows cs n b i).map fun r => .tuple [.int r.1, .int r.2]) xs)
    ⟨[], (Tr.refl H []).new hD nl, .nil⟩ ?_ ?_
  · rintro i H2 hi ⟨xs, t2, rx⟩
    have hbi : b + i < nk := by omega
    have e1 : ((b : Int) + i) = ((b + i : Nat) : Int) := by omega
    refine ⟨rfl, ?_⟩
    refine ⟨_, rfl, _, rfl, pw, _, _, _, rfl, rfl, (fw.mono t2.mono).sq, at_of (j := b + i) e1 (by rw [List.getElem?_map, wrow_get hbi]; rfl), _, rfl, _, rfl, pl, _, _, _, rfl, rfl, (fl.mono t2.mono).sq, at_of (j := b + i) e1 (by rw [List.getElem?_map, lrow_get hbi]; rfl), ⟨(by show 2 ≤ sizeLine; decide), fun t ht => ?_⟩⟩
    obtain ⟨s3, r3⟩ := snoc_tup (K := K) (ds := [.int (wof (cs.take n) (b + i)), .int (lof (cs.take n) (b + i))]) t2.own ht (.cons .int (.cons .int .nil))
    have hx : xs.length = i := by rw [rx.length, List.length_map, partRows, List.length_map, List.length_range]
    refine ⟨xs, by rw [upd_ne (ne_of_none t2.own.head ht)]; exact t2.own.head, by rw [hx]; exact small1000 (by omega), xs ++ [.ref t], t2.trans s3, ?_⟩
    unfold partRows
    rw [List.range_succ, List.map_append, List.map_append]
    exact (rx.mono s3.mono).snoc r3
  · rintro H2 ⟨xs, t2, rx⟩
    have e2 : ((e : Int) - b).toNat = e - b := by omega
    rw [e2] at rx
    refine ⟨D, xs, rfl, .inl ⟨SqL.of t2.own.head, fun l hl => ⟨(by show 4 ≤ sizeLine; decide), fun t ht => ?_⟩⟩⟩
    have g := ((t2.old (o := .tup xs) hl).old (o := .tup [.str "part", .int n, .int b, .ref l]) ht).tail
    refine k _ _ g (.tup upd_same (.cons .str (.cons .int (.cons .int (.cons (.tup ((Mono.new ht) _ _ upd_same trivial) (rx.mono ((Mono.new hl).trans (Mono.new ht)))) .nil)))))
theorem ok_beat (F : Fd K mg "_law_beat" s_beat) (Bm : Blt mg) : Gf P w K mg base 1 "_law_beat" ["_law_rows", "_law_number_here"] (spBeat K) := by
  refine F.ok sc_beat (fun _ _ _ _ _ _ us hl => match us, hl with | [_, _], _ => rfl) len_of fun qual f cdv A outer s H vs Q E hr h => ?_
  obtain ⟨_, nk, n, cs, v, rfl, hk, hn, hv, k⟩ := h
  obtain ⟨a, xr, rfl, fr, rr⟩ := hv.lst_inv
  obtain ⟨u, hu, ru⟩ := rr.get (rowsD_get (nk := nk) hn)
  obtain ⟨ar, pw, pl, rfl, har, fw, fl⟩ := ru.row_inv
  refine ⟨_, (pss_one (ps_ret (pe_tup (pa_cons pe_str (pa_cons (pv 1) (pa_cons (pe_callTy call_tuple_of rfl Bm.tuple (by decide +kernel) (pa_cons (pe_ix ix_tup (pe_ix ix_list (pv 0) (pv 1) (fun _ _ => rfl)) pe_int (fun _ _ => rfl)) pa_nil)) pa_nil)))))), ?_⟩
  refine ⟨_, rfl, _, rfl, _, rfl, a, xr, _, _, rfl, rfl, fr.sq, at_of (j := n) rfl hu, ar, _, _, _, rfl, rfl, SqT.of har, rfl, pl, _, rfl, .inl ⟨fl.sq, fun l hl => ⟨(by show 3 ≤ sizeLine; decide), fun t ht => ?_⟩⟩⟩
  refine k _ _ (((Grow.refl H).old hl).old ht) (.tup upd_same (.cons .str (.cons .int (.cons (.tup ((Mono.new ht) _ _ upd_same trivial) ?_) .nil))))
  have : ((List.range nk).map fun k => lof (cs.take n) k).map (fun k : Nat => PyData.int k) = (lrow nk (cs.take n)).map PyData.int := by
    rw [lrow, List.map_map, List.map_map]
    rfl
  rw [this]
  exact RpL.of_ints _
end
end Cu

namespace Cu
open PySem PySem.Spec PyProof.Rows L2
abbrev s_counts : Stmt := (top 23)
theorem sc_counts : FnScope ["_law_d", "_law_keys"] ["_law_d"] (defScope s_counts) := ⟨rfl, rfl, rfl, by decide +kernel, rfl, by decide +kernel, by decide +kernel⟩

def spCounts (K : PySem.W.Frag) : Sp := fun vs H Q _ => vs.length = 1 ∧ ∃ (a : Addr) (R : Lg), vs = [.ref a] ∧ Dice K H a R ∧
  ∀ (nk keep : Nat) (t : Addr) (H' : Hp), 0 < nk → nk ≤ 8 → keep ≤ 20 → Mono H H' → Dice K H' a R → H' t = some (.tup [.int nk, .int keep]) → Q (.ref t) H'
section
variable {P : Program} {w : World} {K : PySem.W.Frag} {mg : Str → Option Value} {base : Heap}
theorem ok_counts (F : Fd K mg "_law_counts" s_counts) (Bm : Blt mg) (g_next : Gf P w K mg base 1 "_law_next" ["_law_dice_here", "_law_many"] (spNext K)) : Gf P w K mg base 2 "_law_counts" ["_law_d"] (spCounts K) := by
  refine F.ok sc_counts (fun _ _ _ _ _ _ us hl => match us, hl with | [_], _ => rfl) len_of fun qual f cdv A outer s H vs Q E hr h => ?_
  obtain ⟨_, a, R, rfl, d, go⟩ := h
  refine ⟨_, (pss_cons (ps_set (i := 1) sc_counts.nd rfl (Or.inl rfl) (pe_ix ix_list (pe_lst (pa_cons (pe_op op_add pe_int (pc g_next hr (pa_cons (pv 0) (pa_cons pe_int pa_nil)))) (pa_cons (pe_op op_add pe_int (pc g_next hr (pa_cons (pv 0) (pa_cons pe_int pa_nil)))) pa_nil))) (pc g_next hr (pa_cons (pv 0) (pa_cons pe_int pa_nil))) (fun _ _ => rfl)))
      (pss_one (ps_ret (pe_tup (pa_cons (pv 1) (pa_cons (pe_ix ix_list (pe_lst (pa_cons (pc g_next hr (pa_cons (pv 0) (pa_cons pe_int pa_nil))) (pa_cons (pc g_next hr (pa_cons (pv 0) (pa_cons pe_int pa_nil))) pa_nil))) (pc g_next hr (pa_cons (pv 0) (pa_cons pe_int pa_nil))) (fun _ _ => rfl)) pa_nil)))))), ?_⟩
  refine ⟨_, rfl, rfl, a, 3, R, rfl, by decide, by decide, d, fun r1 H1 p1 q1 m1 d1 => ⟨_, _, rfl, rfl, ?_⟩⟩
  refine ⟨_, rfl, rfl, a, 8, R, rfl, by decide, by decide, d1, fun r2 H2 p2 q2 m2 d2 => ⟨_, _, rfl, rfl, ?_⟩⟩
  refine ⟨(by show 2 ≤ sizeLine; decide), fun l hl => ?_⟩
  refine ⟨_, rfl, rfl, a, 2, _, rfl, by decide, by decide, d2.new (o := .lst [.int (1 + r1), .int (1 + r2)]) hl nl, fun r3 H3 p3 q3 m3 d3 => ?_⟩
  obtain ⟨v, hv, hm⟩ := at_some (xs := [.int (1 + r1), .int (1 + r2)]) p3 q3
  obtain ⟨nk, rfl, hk, hk8⟩ : ∃ nk : Nat, v = V.int nk ∧ 0 < nk ∧ nk ≤ 8 := by
    simp only [List.mem_cons, List.not_mem_nil, or_false] at hm
    rcases hm with e | e
    · exact ⟨(1 + r1).toNat, by rw [e]; congr 1; omega, by omega, by omega⟩
    · exact ⟨(1 + r2).toNat, by rw [e]; congr 1; omega, by omega, by omega⟩
  refine ⟨l, _, _, _, rfl, rfl, SqL.of d3.at_, hv, ?_⟩
  have d4 := d3.tail
  refine ⟨_, rfl, _, rfl, rfl, a, 7, R, rfl, by decide, by decide, d4, fun r5 H5 p5 q5 m5 d5 => ?_⟩
  refine ⟨_, rfl, rfl, a, 21, R, rfl, by decide, by decide, d5, fun r6 H6 p6 q6 m6 d6 => ⟨(by show 2 ≤ sizeLine; decide), fun l2 hl2 => ?_⟩⟩
  refine ⟨_, rfl, rfl, a, 2, _, rfl, by decide, by decide, d6.new (o := .lst [.int r5, .int r6]) hl2 nl, fun r7 H7 p7 q7 m7 d7 => ?_⟩
  obtain ⟨v, hv, hm⟩ := at_some (xs := [.int r5, .int r6]) p7 q7
  obtain ⟨keep, rfl, hkp⟩ : ∃ keep : Nat, v = V.int keep ∧ keep ≤ 20 := by
    simp only [List.mem_cons, List.not_mem_nil, or_false] at hm
    rcases hm with e | e
    · exact ⟨r5.toNat, by rw [e]; congr 1; omega, by omega⟩
    · exact ⟨r6.toNat, by rw [e]; congr 1; omega, by omega⟩
  refine ⟨l2, _, _, _, rfl, rfl, SqL.of d7.at_, hv, ⟨(by show 2 ≤ sizeLine; decide), fun t ht => ?_⟩⟩
  exact go nk keep t _ hk hk8 hkp (((((((m1.trans m2).trans (Mono.new hl)).trans m3).trans m5).trans m6).trans (Mono.new hl2)).trans (m7.trans (Mono.new ht))) (d7.tail.old ht) upd_same
end
end Cu

namespace Cu
open PySem PySem.Spec PyProof.Rows L2
/-! a hearer, key by key -/
/-- a change put aside -/
structure As where
  n : Nat
  worth : Int
  ahead : Nat
structure HK where
  worth : Int
  since : Nat
  upto : Int
  aside : List As
def HK.ini : HK := ⟨0, 0, -1, []⟩
def HK.done (h : HK) (n : Nat) (set : Bool) (w : Int) : HK := { h with worth := if set then w else h.worth + w, since := n, upto := n }
def asN (as : List As) : List Int := as.map fun a => (a.n : Int)
def srt (ns : List Int) : List Int := ns.mergeSort fun a b => decide (a ≤ b)
def findA (as : List As) (n : Int) : Option As := as.find? fun a => decide ((a.n : Int) = n)
def dropA (as : List As) (n : Int) : List As := as.filter fun a => decide ((a.n : Int) ≠ n)
def putA (as : List As) (a : As) : List As := if (as.any fun x => decide (x.n = a.n)) = true then as.map fun x => if x.n = a.n then a else x else as ++ [a]
def HK.fstep (st : HK × List Int) (n : Int) : HK × List Int :=
  match findA st.1.aside n with
  | none => st
  | some a => if n ≤ st.1.upto then ({ st.1 with aside := dropA st.1.aside n }, st.2)
    else if (a.ahead : Int) ≤ st.1.upto then (({ st.1 with aside := dropA st.1.aside n } : HK).done a.n false a.worth, st.2 ++ [n])
    else st
def HK.free (h : HK) : HK × List Int := (srt (asN h.aside)).foldl HK.fstep (h, [])
def HK.chg (h : HK) (n : Nat) (c : Ch) (ahead : Nat) : HK × List Int :=
  if (n : Int) ≤ h.upto then (h, []) else if c.set = false ∧ h.upto < (ahead : Int) then ({ h with aside := putA h.aside ⟨n, c.worth, ahead⟩ }, [])
  else (((h.done n c.set c.worth).free).1, (n : Int) :: ((h.done n c.set c.worth).free).2)
def HK.row (h : HK) (n : Nat) (w : Int) (last : Nat) : HK × List Int := if h.upto < (n : Int) then ({ h with worth := w, since := last, upto := n } : HK).free else (h, [])
def HK.beat (h : HK) (n last : Nat) : HK := if (last : Int) ≤ h.upto ∧ h.upto < (n : Int) then { h with upto := n } else h
def hearK (k : Nat) (h : HK) : Letter → HK × List Int
  | .change n c ahead => if c.key = k then h.chg n c ahead else (h, [])
  | .part n b rows => if b ≤ k then (match rows[k - b]? with | some r => h.row n r.1 r.2 | none => (h, [])) else (h, [])
  | .beat n lasts => match lasts[k]? with | some l => (h.beat n l, []) | none => (h, [])
def hear (hs : List HK) (l : Letter) : List HK := hs.mapIdx fun k h => (hearK k h l).1
def heard (hs : List HK) (l : Letter) : List Int := (hs.mapIdx fun k h => (hearK k h l).2).flatten
theorem srt_eq {ns ms : List Int} (hp : ms.Perm ns) (hs : ms.Pairwise (· ≤ ·)) : ms = srt ns := by
  refine PySem.W.ksm_same (hp.trans (List.mergeSort_perm ns _).symm) hs ?_
  have := List.pairwise_mergeSort (le := fun a b : Int => decide (a ≤ b)) (fun a b c h1 h2 => by simp at h1 h2 ⊢; omega) (fun a b => by simp; omega) ns
  exact this.imp fun h => by simpa using h
theorem hear_len (hs : List HK) (l : Letter) : (hear hs l).length = hs.length := by simp [hear]

/-! where a hearer lies -/
structure HA where
  p : Addr
  dx : Addr
  l1 : Addr
  l2 : Addr
  l3 : Addr
  l4 : Addr
  ds : List Addr
def hF (A : HA) : List (Str × V) := [("worth", .ref A.l1), ("since", .ref A.l2), ("upto", .ref A.l3), ("aside", .ref A.l4)]
def hObj (C : Addr) (A : HA) (hs : List HK) (kv : List (List (Key × V))) : Lg :=
  (A.p, .ins C A.dx (hF A)) :: (A.l1, .lst (hs.map fun h => .int h.worth)) :: (A.l2, .lst (hs.map fun h => .int h.since)) :: (A.l3, .lst (hs.map fun h => .int h.upto)) ::
    (A.l4, .lst (A.ds.map V.ref)) :: List.zipWith (fun d k => (d, HO.dK k)) A.ds kv
def asL (k : Nat) (a : As) : Letter := .change a.n ⟨k, false, a.worth⟩ a.ahead
def AsOk (K : PySem.W.Frag) (H : Hp) (k : Nat) : List As → List (Key × V) → Prop
  | [], kvs => kvs = []
  | a :: as, kvs => ∃ v r, kvs = (Sum.inl (a.n : Int), v) :: r ∧ Rp K H (asL k a).enc v ∧ AsOk K H k as r
section
variable {K : PySem.W.Frag} {H H' : Hp} {k : Nat}
theorem AsOk.mono (m : Mono H H') : ∀ {as : List As} {kvs : List (Key × V)}, AsOk K H k as kvs → AsOk K H' k as kvs
  | [], _, h => h
  | a :: as, _, ⟨v, r, e, h1, h2⟩ => ⟨v, r, e, h1.mono m, AsOk.mono m h2⟩
theorem AsOk.keys : ∀ {as : List As} {kvs : List (Key × V)}, AsOk K H k as kvs → kvs.map (·.1) = (asN as).map Sum.inl
  | [], _, h => by
    cases h
    rfl
  | a :: as, _, ⟨v, r, e, h1, h2⟩ => by
    subst e
    show Sum.inl (a.n : Int) :: r.map (·.1) = _
    rw [h2.keys]
    rfl
theorem AsOk.len {as : List As} {kvs : List (Key × V)} (h : AsOk K H k as kvs) : kvs.length = as.length := by
  have := congrArg List.length h.keys
  simpa [asN] using this
theorem AsOk.find : ∀ {as : List As} {kvs : List (Key × V)} {n : Int} {a : As}, AsOk K H k as kvs → findA as n = some a → ∃ v, valV kvs (Sum.inl n) = some v ∧ Rp K H (asL k a).enc v
  | [], _, _, _, _, e => by cases e
  | b :: as, _, n, a, ⟨v, r, e, h1, h2⟩, f => by
    subst e
    by_cases hb : (b.n : Int) = n
    · have : findA (b :: as) n = some b := by simp [findA, hb]
      rw [this] at f
      cases f
      exact ⟨v, valV_pos (by rw [hb]), h1⟩
    · have : findA (b :: as) n = findA as n := by simp [findA, hb]
      rw [this] at f
      obtain ⟨u, hu, ru⟩ := h2.find f
      exact ⟨u, by rw [valV_neg (fun q => hb (Sum.inl.inj q))]; exact hu, ru⟩
theorem AsOk.drop : ∀ {as : List As} {kvs : List (Key × V)} (n : Int), AsOk K H k as kvs → AsOk K H k (dropA as n) (dropK kvs (Sum.inl n))
  | [], _, _, h => by
    cases h
    rfl
  | b :: as, _, n, ⟨v, r, e, h1, h2⟩ => by
    subst e
    have ih := AsOk.drop n h2
    by_cases hb : (b.n : Int) = n
    · have : dropA (b :: as) n = dropA as n := by simp [dropA, hb]
      rw [this, dropK_pos (by rw [hb])]
      exact ih
    · have : dropA (b :: as) n = b :: dropA as n := by simp [dropA, hb]
      rw [this, dropK_neg (fun q => hb (Sum.inl.inj q))]
      exact ⟨v, _, rfl, h1, ih⟩
theorem AsOk.any : ∀ {as : List As} {kvs : List (Key × V)} (n : Nat), AsOk K H k as kvs → (kvs.any fun kv => decide (kv.1 = Sum.inl (n : Int))) = as.any fun x => decide (x.n = n)
  | [], _, _, h => by
    cases h
    rfl
  | b :: as, _, n, ⟨v, r, e, h1, h2⟩ => by
    subst e
    rw [List.any_cons, List.any_cons, h2.any]
    congr 1
    by_cases hb : b.n = n <;> simp [hb]
    intro q
    exact hb (by omega)
theorem AsOk.map : ∀ {as : List As} {kvs : List (Key × V)} (a : As) (v : V), AsOk K H k as kvs → Rp K H (asL k a).enc v →
    AsOk K H k (as.map fun x => if x.n = a.n then a else x) (kvs.map fun kv => if kv.1 = Sum.inl (a.n : Int) then (kv.1, v) else kv)
  | [], _, _, _, h, _ => by
    cases h
    rfl
  | b :: as, _, a, v, ⟨u, r, e, h1, h2⟩, hv => by
    subst e
    have ih := AsOk.map a v h2 hv
    by_cases hb : b.n = a.n
    · simp only [List.map_cons, hb, if_pos]
      exact ⟨v, _, rfl, hv, ih⟩
    · have hb' : ¬ ((Sum.inl (b.n : Int) : Key) = Sum.inl (a.n : Int)) := fun q => hb (by have := Sum.inl.inj q; omega)
      simp only [List.map_cons, hb, if_neg hb', if_false]
      exact ⟨u, _, rfl, h1, ih⟩
theorem AsOk.append : ∀ {as bs : List As} {kvs kws : List (Key × V)}, AsOk K H k as kvs → AsOk K H k bs kws → AsOk K H k (as ++ bs) (kvs ++ kws)
  | [], _, _, _, h, g => by
    cases h
    exact g
  | _ :: _, _, _, _, ⟨v, r, e, h1, h2⟩, g => by
    subst e
    exact ⟨v, _, rfl, h1, h2.append g⟩
theorem AsOk.put {as : List As} {kvs : List (Key × V)} {a : As} {v : V} (h : AsOk K H k as kvs) (hv : Rp K H (asL k a).enc v) : AsOk K H k (putA as a) (putK kvs (Sum.inl (a.n : Int)) v) := by
  unfold putA putK
  rw [h.any]
  split
  · exact h.map a v hv
  · exact h.append ⟨v, [], rfl, hv, rfl⟩
end

/-- the objects at c are a hearer's that stands so -/
structure HR (K : PySem.W.Frag) (C : Addr) (A : HA) (hs : List HK) (H : Hp) (c : Lg) : Prop where
  ex : ∃ kv, c = hObj C A hs kv ∧ A.ds.length = hs.length ∧ kv.length = hs.length ∧ ∀ (k : Nat) (h : HK) (kvs : List (Key × V)), hs[k]? = some h → kv[k]? = some kvs → AsOk K H k h.aside kvs
theorem Tr.mid {H : Hp} {pre post : Lg} {a : Addr} {o o' : HO} (h : Has H (pre ++ (a, o) :: post)) (n : ¬ Imm o') : Tr H (pre ++ (a, o) :: post) (upd H a o') (pre ++ (a, o') :: post) := by
  refine ⟨Mono.put (h.mem (by simp)) (h.at_ (a, o) (by simp)).2, fun R hR => ?_⟩
  rw [List.append_assoc, List.cons_append] at hR ⊢
  exact ((hR.perm List.perm_middle).put n).perm List.perm_middle.symm
section
variable {K : PySem.W.Frag} {C : Addr} {A : HA} {hs : List HK} {H H' : Hp} {c : Lg} {k : Nat} {h : HK}
theorem HR.mono (r : HR K C A hs H c) (m : Mono H H') : HR K C A hs H' c := by
  obtain ⟨kv, e, l1, l2, q⟩ := r.ex
  exact ⟨kv, e, l1, l2, fun k h kvs e1 e2 => (q k h kvs e1 e2).mono m⟩
theorem HR.at_p (r : HR K C A hs H c) (h : Has H c) : H A.p = some (.ins C A.dx (hF A)) := by
  obtain ⟨kv, rfl, _⟩ := r.ex
  exact h.mem (by simp [hObj])
theorem HR.at1 (r : HR K C A hs H c) (h : Has H c) : H A.l1 = some (.lst (hs.map fun h => .int h.worth)) := by
  obtain ⟨kv, rfl, _⟩ := r.ex
  exact h.mem (by simp [hObj])
theorem HR.at2 (r : HR K C A hs H c) (h : Has H c) : H A.l2 = some (.lst (hs.map fun h => .int h.since)) := by
  obtain ⟨kv, rfl, _⟩ := r.ex
  exact h.mem (by simp [hObj])
theorem HR.at3 (r : HR K C A hs H c) (h : Has H c) : H A.l3 = some (.lst (hs.map fun h => .int h.upto)) := by
  obtain ⟨kv, rfl, _⟩ := r.ex
  exact h.mem (by simp [hObj])
theorem HR.at4 (r : HR K C A hs H c) (h : Has H c) : H A.l4 = some (.lst (A.ds.map V.ref)) := by
  obtain ⟨kv, rfl, _⟩ := r.ex
  exact h.mem (by simp [hObj])
theorem HR.dict (r : HR K C A hs H c) (hh : Has H c) (e : hs[k]? = some h) : ∃ d kvs, A.ds[k]? = some d ∧ H d = some (.dK kvs) ∧ AsOk K H k h.aside kvs := by
  obtain ⟨kv, rfl, l1, l2, q⟩ := r.ex
  have hk := (List.getElem?_eq_some_iff.mp e).1
  obtain ⟨d, hd⟩ : ∃ d, A.ds[k]? = some d := ⟨A.ds[k], List.getElem?_eq_getElem (by omega)⟩
  obtain ⟨kvs, hkv⟩ : ∃ kvs, kv[k]? = some kvs := ⟨kv[k], List.getElem?_eq_getElem (by omega)⟩
  refine ⟨d, kvs, hd, hh.mem ?_, q k h kvs e hkv⟩
  have : (List.zipWith (fun d k => (d, HO.dK k)) A.ds kv)[k]? = some (d, HO.dK kvs) := by rw [List.getElem?_zipWith, hd, hkv]
  have := List.mem_of_getElem? this
  simp [hObj, this]
theorem map_set_same {α β : Type} {f : α → β} {xs : List α} {k : Nat} {x y : α} (e : xs[k]? = some x) (h : f y = f x) : (xs.set k y).map f = xs.map f := by
  rw [List.map_set, h]
  apply List.ext_getElem?
  intro i
  by_cases hi : k = i
  · subst hi
    rw [List.getElem?_set_self (by rw [List.length_map]; exact (List.getElem?_eq_some_iff.mp e).1), List.getElem?_map, e]
    rfl
  · rw [List.getElem?_set_ne hi]
theorem hs_set {hs : List HK} {k : Nat} {h g : HK} (e : hs[k]? = some h) (ea : g.aside = h.aside) {kv : List (List (Key × V))} (q : ∀ (k : Nat) (h : HK) (kvs : List (Key × V)), hs[k]? = some h → kv[k]? = some kvs → AsOk K H k h.aside kvs) :
    ∀ (j : Nat) (h : HK) (kvs : List (Key × V)), (hs.set k g)[j]? = some h → kv[j]? = some kvs → AsOk K H j h.aside kvs := fun j h' kvs e1 e2 => by
  by_cases hj : k = j
  · subst hj
    rw [List.getElem?_set_self (List.getElem?_eq_some_iff.mp e).1] at e1
    cases e1
    rw [ea]
    exact q k h kvs e e2
  · rw [List.getElem?_set_ne hj] at e1
    exact q j h' kvs e1 e2
/-- the three lists, written at a key -/
theorem HR.set1 (r : HR K C A hs H c) (hh : Has H c) (e : hs[k]? = some h) (z : Int) :
    ∃ c', HR K C A (hs.set k { h with worth := z }) (upd H A.l1 (.lst ((hs.map fun h => V.int h.worth).set k (.int z)))) c' ∧ Tr H c (upd H A.l1 (.lst ((hs.map fun h => V.int h.worth).set k (.int z)))) c' := by
  obtain ⟨kv, rfl, l1, l2, q⟩ := r.ex
  have t := Tr.mid (pre := [(A.p, .ins C A.dx (hF A))]) (o' := .lst ((hs.map fun h => V.int h.worth).set k (.int z))) hh nl
  refine ⟨hObj C A (hs.set k { h with worth := z }) kv, ⟨kv, rfl, by rw [List.length_set]; exact l1, by rw [List.length_set]; exact l2, hs_set (g := { h with worth := z }) e rfl fun k h kvs e1 e2 => (q k h kvs e1 e2).mono t.mono⟩, ?_⟩
  unfold hObj
  rw [List.map_set, map_set_same (f := fun h : HK => V.int h.since) (y := { h with worth := z }) e rfl, map_set_same (f := fun h : HK => V.int h.upto) (y := { h with worth := z }) e rfl]
  exact t
theorem HR.set2 (r : HR K C A hs H c) (hh : Has H c) (e : hs[k]? = some h) (z : Nat) :
    ∃ c', HR K C A (hs.set k { h with since := z }) (upd H A.l2 (.lst ((hs.map fun h => V.int h.since).set k (.int z)))) c' ∧ Tr H c (upd H A.l2 (.lst ((hs.map fun h => V.int h.since).set k (.int z)))) c' := by
  obtain ⟨kv, rfl, l1, l2, q⟩ := r.ex
  have t := Tr.mid (pre := [(A.p, .ins C A.dx (hF A)), (A.l1, .lst (hs.map fun h => .int h.worth))]) (o' := .lst ((hs.map fun h => V.int h.since).set k (.int z))) hh nl
  refine ⟨hObj C A (hs.set k { h with since := z }) kv, ⟨kv, rfl, by rw [List.length_set]; exact l1, by rw [List.length_set]; exact l2, hs_set (g := { h with since := z }) e rfl fun k h kvs e1 e2 => (q k h kvs e1 e2).mono t.mono⟩, ?_⟩
  unfold hObj
  rw [List.map_set (f := fun h : HK => V.int h.since), map_set_same (f := fun h : HK => V.int h.worth) (y := { h with since := z }) e rfl, map_set_same (f := fun h : HK => V.int h.upto) (y := { h with since := z }) e rfl]
  exact t
theorem HR.set3 (r : HR K C A hs H c) (hh : Has H c) (e : hs[k]? = some h) (z : Int) :
    ∃ c', HR K C A (hs.set k { h with upto := z }) (upd H A.l3 (.lst ((hs.map fun h => V.int h.upto).set k (.int z)))) c' ∧ Tr H c (upd H A.l3 (.lst ((hs.map fun h => V.int h.upto).set k (.int z)))) c' := by
  obtain ⟨kv, rfl, l1, l2, q⟩ := r.ex
  have t := Tr.mid (pre := [(A.p, .ins C A.dx (hF A)), (A.l1, .lst (hs.map fun h => .int h.worth)), (A.l2, .lst (hs.map fun h => .int h.since))]) (o' := .lst ((hs.map fun h => V.int h.upto).set k (.int z))) hh nl
  refine ⟨hObj C A (hs.set k { h with upto := z }) kv, ⟨kv, rfl, by rw [List.length_set]; exact l1, by rw [List.length_set]; exact l2, hs_set (g := { h with upto := z }) e rfl fun k h kvs e1 e2 => (q k h kvs e1 e2).mono t.mono⟩, ?_⟩
  unfold hObj
  rw [List.map_set (f := fun h : HK => V.int h.upto), map_set_same (f := fun h : HK => V.int h.worth) (y := { h with upto := z }) e rfl, map_set_same (f := fun h : HK => V.int h.since) (y := { h with upto := z }) e rfl]
  exact t
theorem zip_split {ds : List Addr} {kv : List (List (Key × V))} {k : Nat} {d : Addr} {x : List (Key × V)} (h1 : ds[k]? = some d) (h2 : kv[k]? = some x) :
    ∃ pre post, List.zipWith (fun d k => (d, HO.dK k)) ds kv = pre ++ (d, HO.dK x) :: post ∧ ∀ y, List.zipWith (fun d k => (d, HO.dK k)) ds (kv.set k y) = pre ++ (d, HO.dK y) :: post := by
  induction k generalizing ds kv with
  | zero =>
    cases ds with
    | nil => simp at h1
    | cons d' ds =>
      cases kv with
      | nil => simp at h2
      | cons x' kv =>
        simp at h1 h2
        subst h1 h2
        exact ⟨[], _, rfl, fun y => rfl⟩
  | succ k ih =>
    cases ds with
    | nil => simp at h1
    | cons d' ds =>
      cases kv with
      | nil => simp at h2
      | cons x' kv =>
        obtain ⟨pre, post, e1, e2⟩ := ih (ds := ds) (kv := kv) (by simpa using h1) (by simpa using h2)
        refine ⟨(d', HO.dK x') :: pre, post, ?_, fun y => ?_⟩
        · rw [List.zipWith_cons_cons, e1]
          rfl
        · rw [List.set_cons_succ, List.zipWith_cons_cons, e2]
          rfl
/-- a key's dict, written -/
theorem HR.set4 (r : HR K C A hs H c) (hh : Has H c) (e : hs[k]? = some h) {d : Addr} (ed : A.ds[k]? = some d) {as : List As} {kvs : List (Key × V)} (ok : AsOk K H k as kvs) :
    ∃ c', HR K C A (hs.set k { h with aside := as }) (upd H d (.dK kvs)) c' ∧ Tr H c (upd H d (.dK kvs)) c' := by
  obtain ⟨kv, rfl, l1, l2, q⟩ := r.ex
  have hk := (List.getElem?_eq_some_iff.mp e).1
  obtain ⟨x, hx⟩ : ∃ x, kv[k]? = some x := ⟨kv[k], List.getElem?_eq_getElem (by omega)⟩
  obtain ⟨pre, post, e1, e2⟩ := zip_split ed hx
  have t : Tr H (hObj C A hs kv) (upd H d (.dK kvs)) (hObj C A (hs.set k { h with aside := as }) (kv.set k kvs)) := by
    unfold hObj at hh ⊢
    rw [map_set_same (f := fun h : HK => V.int h.worth) (y := { h with aside := as }) e rfl, map_set_same (f := fun h : HK => V.int h.since) (y := { h with aside := as }) e rfl, map_set_same (f := fun h : HK => V.int h.upto) (y := { h with aside := as }) e rfl, e1, e2]
    rw [e1] at hh
    have := Tr.mid (pre := (A.p, .ins C A.dx (hF A)) :: (A.l1, .lst (hs.map fun h => .int h.worth)) :: (A.l2, .lst (hs.map fun h => .int h.since)) :: (A.l3, .lst (hs.map fun h => .int h.upto)) :: (A.l4, .lst (A.ds.map V.ref)) :: pre) (o' := .dK kvs) hh ndk
    exact this
  refine ⟨_, ⟨kv.set k kvs, rfl, by rw [List.length_set]; exact l1, by rw [List.length_set, List.length_set]; exact l2, fun j h' kw e3 e4 => ?_⟩, t⟩
  by_cases hj : k = j
  · subst hj
    rw [List.getElem?_set_self hk] at e3
    rw [List.getElem?_set_self (by omega)] at e4
    cases e3
    cases e4
    exact ok.mono t.mono
  · rw [List.getElem?_set_ne hj] at e3 e4
    exact (q j h' kw e3 e4).mono t.mono
end
/-- what the walk asks of the class -/
structure CHr (K : PySem.W.Frag) (C : Addr) : Prop where
  cl : Cls K C
  n1 : NoAttr K C "worth"
  n2 : NoAttr K C "since"
  n3 : NoAttr K C "upto"
  n4 : NoAttr K C "aside"
theorem hF1 (A : HA) : (hF A).lookup ("worth" : Str) = some (.ref A.l1) := by rfl
theorem hF2 (A : HA) : (hF A).lookup ("since" : Str) = some (.ref A.l2) := by rfl
theorem hF3 (A : HA) : (hF A).lookup ("upto" : Str) = some (.ref A.l3) := by rfl
theorem hF4 (A : HA) : (hF A).lookup ("aside" : Str) = some (.ref A.l4) := by rfl
theorem ixN_nat {n k : Nat} (h : k < n) : ixN n (k : Int) = some k := by
  unfold ixN
  rw [if_pos (by omega), if_pos (by omega), Int.toNat_natCast]
end Cu

namespace Cu
open PySem PySem.Spec PyProof.Rows L2





theorem iteP {c A B : Prop} [Decidable c] (hc : c) (h : A) : if c then A else B := by
  rw [if_pos hc]
  exact h
theorem iteM {c A B : Prop} [Decidable c] (hc : ¬ c) (h : B) : if c then A else B := by
  rw [if_neg hc]
  exact h
theorem Has.one {H : Hp} {a : Addr} {o : HO} (h : H a = some o) (n : ¬ Imm o) : Has H [(a, o)] := ⟨by simp, fun p hp => by
  rw [List.mem_singleton] at hp
  subst hp
  exact ⟨h, n⟩⟩
theorem nins {C dx : Addr} {fs : List (Str × V)} : ¬ Imm (.ins C dx fs) := fun h => h
/-- a list of the same value, so many as a name says -/
theorem rd_const {σ : L2.St} {H : Hp} {Q : VK} {i j nk : Nat} {te : TE} {v : V} {vs : List Nat} (h1 : σ[i]? = some (some (.int nk))) (hk : nk ≤ 8) (hw : ∀ x, wipe ((wipe σ vs).set j (some x)) vs = wipe σ vs)
    (he : ∀ (σ1 : L2.St) (H1 : Hp) (Q1 : VK), Q1 v H1 → te σ1 H1 Q1) (q : ∀ p H', Tr H [] H' [(p, .lst (List.replicate nk v))] → Q (.ref p) H') :
    tI (tLc (iRng1 (tCons (tVar i) tNil)) (gName j) tYes te vs) σ H Q := by
  refine rd_I ⟨_, h1, _, rfl, by omega, by omega, fun D hD => ?_⟩
  refine lc_range (lo := 0) (n := (nk : Int).toNat) (fun m H2 => Tr H [] H2 [(D, .lst (List.replicate m v))]) ((Tr.refl H []).new hD nl) (fun m H2 hm t => ⟨hw _, he _ _ _ ⟨_, t.own.head, ?_, ?_⟩⟩) fun H2 t => q D H2 (by rw [Int.toNat_natCast] at t; exact t)
  · rw [List.length_replicate]
    exact small1000 (by omega)
  · rw [← List.replicate_succ']
    exact t.put .nil nl
def spHinit (K : PySem.W.Frag) (C : Addr) : Sp := fun vs H Q _ => vs.length = 2 ∧ ∃ (p dx : Addr) (nk : Nat), vs = [.ref p, .int nk] ∧ 0 < nk ∧ nk ≤ 8 ∧ H p = some (.ins C dx []) ∧
  ∀ (A : HA) (c : Lg) (H' : Hp), A.p = p → HR K C A (List.replicate nk HK.ini) H' c → Tr H [(p, .ins C dx [])] H' c → Q .non H'
def spKnown (K : PySem.W.Frag) (C : Addr) : Sp := fun vs H Q _ => vs.length = 1 ∧ ∃ (A : HA) (hs : List HK) (c : Lg), vs = [.ref A.p] ∧ HR K C A hs H c ∧ Has H c ∧ ∀ (r : Addr) (H' : Hp), Tr H [] H' [(r, .lst ((hs.map fun h => h.upto).map V.int))] → Q (.ref r) H'
def heldM (hs : List HK) : List Int := srt ((hs.map fun h => asN h.aside).flatten)
def spHeld (K : PySem.W.Frag) (C : Addr) : Sp := fun vs H Q _ => vs.length = 1 ∧ ∃ (A : HA) (hs : List HK) (c : Lg), vs = [.ref A.p] ∧ HR K C A hs H c ∧ Has H c ∧ (hs.map fun h => asN h.aside).flatten.length ≤ 1000 ∧
  ∀ (r : Addr) (H' : Hp), Tr H [] H' [(r, .lst ((heldM hs).map V.int))] → Q (.ref r) H'
def lookM (h : HK) : PyData := if h.upto < 0 then .none else .tuple [.int h.worth, .int h.since, .int h.upto]
def spLook (K : PySem.W.Frag) (C : Addr) : Sp := fun vs H Q _ => vs.length = 2 ∧ ∃ (A : HA) (hs : List HK) (c : Lg) (k : Nat) (h : HK), vs = [.ref A.p, .int k] ∧ HR K C A hs H c ∧ Has H c ∧ hs[k]? = some h ∧
  ∀ (v : V) (H' : Hp), Grow H H' → Rp K H' (lookM h) v → Q v H'
def minU (hs : List HK) : Int := ((hs.map fun h => h.upto).min?).getD 0
def maxS (hs : List HK) : Int := ((hs.map fun h => (h.since : Int)).max?).getD 0
def wholeM (hs : List HK) : Option (Int × List Int) := if minU hs < maxS hs then none else if 0 ≤ minU hs then some (minU hs, hs.map fun h => h.worth) else none
def spWhole (K : PySem.W.Frag) (C : Addr) : Sp := fun vs H Q _ => vs.length = 1 ∧ ∃ (A : HA) (hs : List HK) (c : Lg), vs = [.ref A.p] ∧ HR K C A hs H c ∧ Has H c ∧ 0 < hs.length ∧
  (wholeM hs = none → Q .non H) ∧
  (∀ n ws, wholeM hs = some (n, ws) → ∀ (r t : Addr) (H' : Hp), Tr H [] H' [(r, .lst (ws.map V.int))] → H' t = some (.tup [.int n, .ref r]) → Q (.ref t) H')
end Cu

namespace Cu
open PySem PySem.Spec PyProof.Rows L2
/-! the mirror's steps -/
theorem findA_drop {as : List As} {n m : Int} (h : n ≠ m) : findA (dropA as m) n = findA as n := by
  induction as with
  | nil => rfl
  | cons a as ih =>
    by_cases hm : (a.n : Int) = m
    · have e1 : dropA (a :: as) m = dropA as m := by simp [dropA, hm]
      have e2 : findA (a :: as) n = findA as n := by simp [findA, show ¬ (a.n : Int) = n by omega]
      rw [e1, e2, ih]
    · have e1 : dropA (a :: as) m = a :: dropA as m := by simp [dropA, hm]
      rw [e1]
      by_cases hn : (a.n : Int) = n
      · simp [findA, hn]
      · have e2 : ∀ bs, findA (a :: bs) n = findA bs n := fun bs => by simp [findA, hn]
        rw [e2, e2, ih]
theorem findA_some {as : List As} {n : Int} (h : n ∈ asN as) : ∃ a, findA as n = some a ∧ (a.n : Int) = n := by
  induction as with
  | nil => cases h
  | cons b as ih =>
    by_cases hb : (b.n : Int) = n
    · exact ⟨b, by simp [findA, hb], hb⟩
    · have h' : n ∈ asN as := by
        rcases List.mem_cons.mp (show n ∈ (b.n : Int) :: asN as from h) with e | e
        · exact absurd e.symm hb
        · exact e
      obtain ⟨a, ha, e⟩ := ih h'
      exact ⟨a, by simpa [findA, hb] using ha, e⟩
theorem findA_n {as : List As} {n : Int} {a : As} (h : findA as n = some a) : (a.n : Int) = n := by
  have := List.find?_some h
  simpa using this
theorem fstep_find {st : HK × List Int} {n m : Int} (h : n ≠ m) : findA (HK.fstep st m).1.aside n = findA st.1.aside n := by
  unfold HK.fstep
  cases hf : findA st.1.aside m with
  | none => rfl
  | some a =>
    dsimp only
    split
    · exact findA_drop h
    · split
      · exact findA_drop h
      · rfl
theorem fold_find {n : Int} : ∀ {l : List Int} {st : HK × List Int}, n ∉ l → findA (l.foldl HK.fstep st).1.aside n = findA st.1.aside n
  | [], _, _ => rfl
  | m :: l, st, h => by
    rw [List.foldl_cons, fold_find fun q => h (List.mem_cons_of_mem _ q), fstep_find fun q => h (by rw [q]; exact List.mem_cons_self)]
theorem fold_len {l : List Int} {st : HK × List Int} : (l.foldl HK.fstep st).2.length ≤ st.2.length + l.length := by
  induction l generalizing st with
  | nil => exact Nat.le_refl _
  | cons n l ih =>
    rw [List.foldl_cons]
    refine Nat.le_trans ih ?_
    have : (HK.fstep st n).2.length ≤ st.2.length + 1 := by
      unfold HK.fstep
      cases findA st.1.aside n with
      | none => exact Nat.le_succ _
      | some a =>
        dsimp only
        split
        · exact Nat.le_succ _
        · split
          · simp
          · exact Nat.le_succ _
    rw [List.length_cons]
    omega
theorem srt_perm (ns : List Int) : (srt ns).Perm ns := List.mergeSort_perm ns _
theorem wd_set (b : Bool) : decide (V.str (wd b) = V.str "set") = b := by cases b <;> decide +kernel
theorem wd_add (b : Bool) : decide (V.str (wd b) = V.str "add") = !b := by cases b <;> decide +kernel
/-- what a key's changes put aside must be, to be sorted -/
structure Wf (h : HK) : Prop where
  nd : (asN h.aside).Nodup
  few : h.aside.length < 122
def prt (hs : List HK) (l : Letter) (m : Nat) : List HK := hs.mapIdx fun k h => if k < m then (hearK k h l).1 else h
def fnd (hs : List HK) (l : Letter) (m : Nat) : List Int := ((hs.mapIdx fun k h => (hearK k h l).2).take m).flatten
theorem prt_get {hs : List HK} {l : Letter} {m k : Nat} {h : HK} (e : hs[k]? = some h) : (prt hs l m)[k]? = some (if k < m then (hearK k h l).1 else h) := by
  rw [prt, List.getElem?_mapIdx, e]
  rfl
theorem prt_len (hs : List HK) (l : Letter) (m : Nat) : (prt hs l m).length = hs.length := by simp [prt]
theorem prt_succ {hs : List HK} {l : Letter} {m : Nat} {h : HK} (e : hs[m]? = some h) : prt hs l (m + 1) = (prt hs l m).set m (hearK m h l).1 := by
  apply List.ext_getElem?
  intro k
  cases ek : hs[k]? with
  | none =>
    have hk := List.getElem?_eq_none_iff.mp ek
    rw [List.getElem?_eq_none (by rw [prt_len]; exact hk), List.getElem?_eq_none (by rw [List.length_set, prt_len]; exact hk)]
  | some g =>
    rw [prt_get ek]
    by_cases hk : m = k
    · subst hk
      rw [e] at ek
      cases ek
      rw [List.getElem?_set_self (by rw [prt_len]; exact (List.getElem?_eq_some_iff.mp e).1), if_pos (Nat.lt_succ_self _)]
    · rw [List.getElem?_set_ne hk, prt_get ek]
      congr 1
      by_cases h1 : k < m
      · rw [if_pos h1, if_pos (by omega)]
      · rw [if_neg h1, if_neg (by omega)]
theorem fnd_succ {hs : List HK} {l : Letter} {m : Nat} {h : HK} (e : hs[m]? = some h) : fnd hs l (m + 1) = fnd hs l m ++ (hearK m h l).2 := by
  unfold fnd
  rw [take_snoc (x := (hearK m h l).2) (by rw [List.getElem?_mapIdx, e]; rfl), List.flatten_append]
  simp
theorem prt_all {hs : List HK} {l : Letter} {m : Nat} (h : hs.length ≤ m) : prt hs l m = hear hs l := by
  apply List.ext_getElem?
  intro k
  cases ek : hs[k]? with
  | none =>
    have hk := List.getElem?_eq_none_iff.mp ek
    rw [List.getElem?_eq_none (by rw [prt_len]; exact hk), List.getElem?_eq_none (by rw [hear_len]; exact hk)]
  | some g =>
    have hk := (List.getElem?_eq_some_iff.mp ek).1
    rw [prt_get ek, if_pos (by omega), hear, List.getElem?_mapIdx, ek]
    rfl
theorem fnd_all {hs : List HK} {l : Letter} {m : Nat} (h : hs.length ≤ m) : fnd hs l m = heard hs l := by
  unfold fnd heard
  rw [List.take_of_length_le (by simpa using h)]
theorem flat_nil {xs : List (List Int)} (h : ∀ x ∈ xs, x = []) : xs.flatten = [] := by
  induction xs with
  | nil => rfl
  | cons x xs ih =>
    rw [List.flatten_cons, h x List.mem_cons_self, ih fun y hy => h y (List.mem_cons_of_mem _ hy)]
    rfl
/-- a letter that does nothing with the keys ahead of b, nothing with those from e on -/
theorem prt_low {hs : List HK} {l : Letter} {b : Nat} (h : ∀ k g, k < b → hearK k g l = (g, [])) : prt hs l b = hs ∧ fnd hs l b = [] := by
  constructor
  · apply List.ext_getElem?
    intro k
    cases ek : hs[k]? with
    | none => rw [List.getElem?_eq_none (by rw [prt_len]; exact List.getElem?_eq_none_iff.mp ek)]
    | some g =>
      rw [prt_get ek]
      split
      · rename_i hk
        rw [h k g hk]
      · rfl
  · unfold fnd
    have : ∀ x ∈ (hs.mapIdx fun k h => (hearK k h l).2).take b, x = [] := fun x hx => by
      obtain ⟨k, hk⟩ := List.getElem?_of_mem hx
      have hkb : k < b := by
        have := (List.getElem?_eq_some_iff.mp hk).1
        rw [List.length_take] at this
        omega
      rw [List.getElem?_take_of_lt hkb, List.getElem?_mapIdx] at hk
      cases ek : hs[k]? with
      | none =>
        rw [ek] at hk
        cases hk
      | some g =>
        rw [ek] at hk
        have e1 : (hearK k g l).2 = x := Option.some.inj hk
        rw [← e1, h k g hkb]
    exact flat_nil this
theorem prt_high {hs : List HK} {l : Letter} {e : Nat} (h : ∀ k g, e ≤ k → hearK k g l = (g, [])) : prt hs l e = hear hs l ∧ fnd hs l e = heard hs l := by
  constructor
  · apply List.ext_getElem?
    intro k
    cases ek : hs[k]? with
    | none => rw [List.getElem?_eq_none (by rw [prt_len]; exact List.getElem?_eq_none_iff.mp ek), List.getElem?_eq_none (by rw [hear_len]; exact List.getElem?_eq_none_iff.mp ek)]
    | some g =>
      rw [prt_get ek, hear, List.getElem?_mapIdx, ek]
      split
      · rfl
      · rename_i hk
        show some g = some (hearK k g l).1
        rw [h k g (by omega)]
  · unfold heard fnd
    have : ∀ x ∈ (hs.mapIdx fun k h => (hearK k h l).2).drop e, x = [] := fun x hx => by
      obtain ⟨k, hk⟩ := List.getElem?_of_mem hx
      rw [List.getElem?_drop, List.getElem?_mapIdx] at hk
      cases ek : hs[e + k]? with
      | none =>
        rw [ek] at hk
        cases hk
      | some g =>
        rw [ek] at hk
        have e1 : (hearK (e + k) g l).2 = x := Option.some.inj hk
        rw [← e1, h (e + k) g (by omega)]
    have h0 : ((hs.mapIdx fun k h => (hearK k h l).2).drop e).flatten = [] := flat_nil this
    conv => rhs; rw [← List.take_append_drop e (hs.mapIdx fun k h => (hearK k h l).2), List.flatten_append, h0, List.append_nil]
section
variable {K : PySem.W.Frag} {H : Hp}
theorem Rp.chg_inv {n ahead : Nat} {c : Ch} {v : V} (h : Rp K H (Letter.enc (.change n c ahead)) v) : ∃ a, v = .ref a ∧ H a = some (.tup [.str "change", .int n, .int c.key, .str (wd c.set), .int c.worth, .int ahead]) := by
  obtain ⟨a, xs, e, f, r⟩ := Rp.tup_inv h
  obtain ⟨v1, r1, e1, h1, r⟩ := r.cons_inv
  obtain ⟨v2, r2, e2, h2, r⟩ := r.cons_inv
  obtain ⟨v3, r3, e3, h3, r⟩ := r.cons_inv
  obtain ⟨v4, r4, e4, h4, r⟩ := r.cons_inv
  obtain ⟨v5, r5, e5, h5, r⟩ := r.cons_inv
  obtain ⟨v6, r6, e6, h6, r⟩ := r.cons_inv
  have := r.nil_inv
  subst this e6 e5 e4 e3 e2 e1
  have h1 := Rp.str_iff.mp h1
  have h2 := Rp.int_iff.mp h2
  have h3 := Rp.int_iff.mp h3
  have h4 := Rp.str_iff.mp h4
  have h5 := Rp.int_iff.mp h5
  have h6 := Rp.int_iff.mp h6
  subst h1 h2 h3 h4 h5 h6
  exact ⟨a, e, f⟩
theorem Rp.part_inv {n b : Nat} {rows : List (Int × Nat)} {v : V} (h : Rp K H (Letter.enc (.part n b rows)) v) :
    ∃ a t xs, v = .ref a ∧ H a = some (.tup [.str "part", .int n, .int b, .ref t]) ∧ H t = some (.tup xs) ∧ xs.length = rows.length ∧ ∀ (i : Nat) r, rows[i]? = some r → ∃ q, xs[i]? = some (.ref q) ∧ H q = some (.tup [.int r.1, .int r.2]) := by
  obtain ⟨a, xs, e, f, r⟩ := Rp.tup_inv h
  obtain ⟨v1, r1, e1, h1, r⟩ := r.cons_inv
  obtain ⟨v2, r2, e2, h2, r⟩ := r.cons_inv
  obtain ⟨v3, r3, e3, h3, r⟩ := r.cons_inv
  obtain ⟨v4, r4, e4, h4, r⟩ := r.cons_inv
  have := r.nil_inv
  subst this e4 e3 e2 e1
  have h1 := Rp.str_iff.mp h1
  have h2 := Rp.int_iff.mp h2
  have h3 := Rp.int_iff.mp h3
  obtain ⟨t, ys, e4, f4, r4⟩ := h4.tup_inv
  subst h1 h2 h3 e4
  refine ⟨a, t, ys, e, f, f4, by rw [r4.length, List.length_map], fun i r hr => ?_⟩
  obtain ⟨u, hu, ru⟩ := r4.get (i := i) (d := .tuple [.int r.1, .int r.2]) (by rw [List.getElem?_map, hr]; rfl)
  obtain ⟨q, zs, e5, f5, r5⟩ := ru.tup_inv
  obtain ⟨w1, z1, e6, g1, r5⟩ := r5.cons_inv
  obtain ⟨w2, z2, e7, g2, r5⟩ := r5.cons_inv
  have := r5.nil_inv
  subst this e7 e6 e5
  have g1 := Rp.int_iff.mp g1
  have g2 := Rp.int_iff.mp g2
  subst g1 g2
  exact ⟨q, hu, f5⟩
theorem Rp.beat_inv {n : Nat} {lasts : List Nat} {v : V} (h : Rp K H (Letter.enc (.beat n lasts)) v) :
    ∃ a t, v = .ref a ∧ H a = some (.tup [.str "beat", .int n, .ref t]) ∧ H t = some (.tup (lasts.map fun k : Nat => V.int k)) := by
  obtain ⟨a, xs, e, f, r⟩ := Rp.tup_inv h
  obtain ⟨v1, r1, e1, h1, r⟩ := r.cons_inv
  obtain ⟨v2, r2, e2, h2, r⟩ := r.cons_inv
  obtain ⟨v3, r3, e3, h3, r⟩ := r.cons_inv
  have := r.nil_inv
  subst this e3 e2 e1
  have h1 := Rp.str_iff.mp h1
  have h2 := Rp.int_iff.mp h2
  obtain ⟨t, ys, e4, f4, r4⟩ := h3.tup_inv
  subst h1 h2 e4
  have ey : ys = lasts.map fun k : Nat => V.int k := by
    have : (lasts.map fun k : Nat => PyData.int k) = (lasts.map fun k : Nat => (k : Int)).map PyData.int := by
      rw [List.map_map]
      rfl
    rw [this] at r4
    have := r4.ints
    rw [this, List.map_map]
    rfl
  subst ey
  exact ⟨a, t, e, f, f4⟩
end
def spDo (K : PySem.W.Frag) (C : Addr) : Sp := fun vs H Q _ => vs.length = 2 ∧ ∃ (A : HA) (hs : List HK) (c : Lg) (v : V) (n ahead : Nat) (ch : Ch) (h : HK), vs = [.ref A.p, v] ∧ HR K C A hs H c ∧ Has H c ∧ Rp K H (Letter.enc (.change n ch ahead)) v ∧ hs[ch.key]? = some h ∧
  ∀ (c' : Lg) (H' : Hp), HR K C A (hs.set ch.key (h.done n ch.set ch.worth)) H' c' → Tr H c H' c' → Q .non H'
def spFreed (K : PySem.W.Frag) (C : Addr) : Sp := fun vs H Q _ => vs.length = 2 ∧ ∃ (A : HA) (hs : List HK) (c : Lg) (k : Nat) (h : HK), vs = [.ref A.p, .int k] ∧ HR K C A hs H c ∧ Has H c ∧ hs[k]? = some h ∧ Wf h ∧
  ∀ (r : Addr) (c' : Lg) (H' : Hp), HR K C A (hs.set k h.free.1) H' c' → Tr H c H' ((r, .lst (h.free.2.map V.int)) :: c') → Q (.ref r) H'
def spChanged (K : PySem.W.Frag) (C : Addr) : Sp := fun vs H Q _ => vs.length = 2 ∧ ∃ (A : HA) (hs : List HK) (c : Lg) (v : V) (n ahead : Nat) (ch : Ch) (h : HK), vs = [.ref A.p, v] ∧ HR K C A hs H c ∧ Has H c ∧ Rp K H (Letter.enc (.change n ch ahead)) v ∧ hs[ch.key]? = some h ∧ Wf h ∧
  ∀ (r : Addr) (c' : Lg) (H' : Hp), HR K C A (hs.set ch.key (h.chg n ch ahead).1) H' c' → Tr H c H' ((r, .lst ((h.chg n ch ahead).2.map V.int)) :: c') → Q (.ref r) H'
def spHear (K : PySem.W.Frag) (C : Addr) : Sp := fun vs H Q _ => vs.length = 2 ∧ ∃ (A : HA) (hs : List HK) (c : Lg) (v : V) (l : Letter), vs = [.ref A.p, v] ∧ HR K C A hs H c ∧ Has H c ∧ Rp K H l.enc v ∧ hs.length ≤ 8 ∧ (∀ h ∈ hs, Wf h) ∧
  (match l with | .change _ ch _ => ch.key < hs.length | .part _ b rows => b + rows.length ≤ hs.length | .beat _ lasts => lasts.length = hs.length) ∧
  ∀ (r : Addr) (c' : Lg) (H' : Hp), HR K C A (hear hs l) H' c' → Tr H c H' ((r, .lst ((heard hs l).map V.int)) :: c') → Q (.ref r) H'
def spCopied (K : PySem.W.Frag) (C : Addr) : Sp := fun vs H Q _ => vs.length = 2 ∧ ∃ (A : HA) (hs : List HK) (c : Lg) (v : V) (n b : Nat) (rows : List (Int × Nat)), vs = [.ref A.p, v] ∧ HR K C A hs H c ∧ Has H c ∧ Rp K H (Letter.enc (.part n b rows)) v ∧ hs.length ≤ 8 ∧ (∀ h ∈ hs, Wf h) ∧ b + rows.length ≤ hs.length ∧
  ∀ (r : Addr) (c' : Lg) (H' : Hp), HR K C A (hear hs (.part n b rows)) H' c' → Tr H c H' ((r, .lst ((heard hs (.part n b rows)).map V.int)) :: c') → Q (.ref r) H'
theorem HR.len {K : PySem.W.Frag} {C : Addr} {A : HA} {hs : List HK} {H : Hp} {c : Lg} (r : HR K C A hs H c) : A.ds.length = hs.length := let ⟨_, _, h, _⟩ := r.ex; h
theorem set_back {hs : List HK} {k : Nat} {h : HK} (e : hs[k]? = some h) : hs.set k h = hs := by
  apply List.ext_getElem?
  intro i
  by_cases hi : k = i
  · subst hi
    rw [List.getElem?_set_self (List.getElem?_eq_some_iff.mp e).1, e]
  · rw [List.getElem?_set_ne hi]
theorem ndec {c : Prop} [Decidable c] (h : ¬ decide c = true) : ¬ c := fun q => h (decide_eq_true q)
theorem hFno {A : HA} {m : Str} (h : (hF A).lookup m = none := by rfl) : (hF A).lookup m = none := h
theorem ixN_of {n j : Nat} {z : Int} (e : z = (j : Int)) (h : j < n) : ixN n z = some j := by
  rw [e]
  exact ixN_nat h
theorem free_len {h : HK} (w : Wf h) : h.free.2.length ≤ 121 := by
  refine Nat.le_trans fold_len ?_
  rw [(srt_perm _).length_eq, asN, List.length_map]
  have := w.few
  show 0 + _ ≤ _
  omega
theorem hearK_len {k : Nat} {h : HK} {l : Letter} (w : Wf h) : (hearK k h l).2.length ≤ 122 := by
  cases l with
  | change n c ahead =>
    simp only [hearK]
    split
    · unfold HK.chg
      split
      · exact Nat.zero_le _
      · split
        · exact Nat.zero_le _
        · have := free_len (h := h.done n c.set c.worth) ⟨w.nd, w.few⟩
          show _ + 1 ≤ 122
          omega
    · exact Nat.zero_le _
  | part n b rows =>
    simp only [hearK]
    split
    · split
      · unfold HK.row
        split
        · rename_i r _ _
          have := free_len (h := { h with worth := r.1, since := r.2, upto := n }) ⟨w.nd, w.few⟩
          omega
        · exact Nat.zero_le _
      · exact Nat.zero_le _
    · exact Nat.zero_le _
  | beat n lasts =>
    simp only [hearK]
    split <;> exact Nat.zero_le _
theorem flat_len {b : Nat} : ∀ {xs : List (List Int)}, (∀ x ∈ xs, x.length ≤ b) → xs.flatten.length ≤ b * xs.length
  | [], _ => Nat.zero_le _
  | x :: xs, h => by
    have ih := flat_len (xs := xs) fun y hy => h y (List.mem_cons_of_mem _ hy)
    have h1 := h x List.mem_cons_self
    rw [List.flatten_cons, List.length_append, List.length_cons, Nat.mul_add]
    omega
theorem fnd_len {hs : List HK} {l : Letter} {m : Nat} (w : ∀ h ∈ hs, Wf h) (h8 : hs.length ≤ 8) : (fnd hs l m).length ≤ 976 := by
  unfold fnd
  refine Nat.le_trans (flat_len (b := 122) fun x hx => ?_) ?_
  · have hx := List.mem_of_mem_take hx
    obtain ⟨k, hk⟩ := List.getElem?_of_mem hx
    rw [List.getElem?_mapIdx] at hk
    cases ek : hs[k]? with
    | none =>
      rw [ek] at hk
      cases hk
    | some g =>
      rw [ek] at hk
      have e1 : (hearK k g l).2 = x := Option.some.inj hk
      rw [← e1]
      exact hearK_len (w g (List.mem_of_getElem? ek))
  · rw [List.length_take, List.length_mapIdx]
    have : min m hs.length ≤ 8 := Nat.le_trans (Nat.min_le_right _ _) h8
    omega
theorem hear_change {hs : List HK} {n ahead : Nat} {ch : Ch} {h : HK} (e : hs[ch.key]? = some h) : hear hs (.change n ch ahead) = hs.set ch.key (h.chg n ch ahead).1 ∧ heard hs (.change n ch ahead) = (h.chg n ch ahead).2 := by
  have ek : hearK ch.key h (.change n ch ahead) = h.chg n ch ahead := by simp only [hearK, if_pos]
  obtain ⟨a1, a2⟩ := prt_low (hs := hs) (l := .change n ch ahead) (b := ch.key) fun k g hk => by
    simp only [hearK]
    rw [if_neg (by omega)]
  obtain ⟨b1, b2⟩ := prt_high (hs := hs) (l := .change n ch ahead) (e := ch.key + 1) fun k g hk => by
    simp only [hearK]
    rw [if_neg (by omega)]
  rw [prt_succ e, a1, ek] at b1
  rw [fnd_succ e, a2, ek] at b2
  exact ⟨b1.symm, b2.symm⟩
end Cu

namespace Cu
open PySem PySem.Spec PyProof.Rows L2
abbrev s_letter : Stmt := (top 28)
theorem sc_letter : FnScope ["_law_d", "_law_keys", "_law_rows", "_law_letters", "_law_kind", "_law_number_here", "_law_begin"] ["_law_d", "_law_keys", "_law_rows", "_law_letters"] (defScope s_letter) := ⟨rfl, rfl, rfl, by decide +kernel, rfl, by decide +kernel, by decide +kernel⟩

def spLetter1 (K : PySem.W.Frag) : Sp := fun vs H Q _ => vs.length = 4 ∧ ∃ (a : Addr) (nk : Nat) (cs : List Ch) (vr vl : V) (R : Lg), vs = [.ref a, .int nk, vr, vl] ∧ 0 < nk ∧ nk ≤ 8 ∧ cs.length ≤ 1000 ∧ Dice K H a R ∧ Rp K H (.list (rowsD nk cs)) vr ∧ Rp K H (.list ((lets cs).map Letter.enc)) vl ∧
  ∀ (l : Letter) (v : V) (H' : Hp), IsLet nk cs l → Mono H H' → Dice K H' a R → Rp K H' l.enc v → Q v H'
section
variable {P : Program} {w : World} {K : PySem.W.Frag} {mg : Str → Option Value} {base : Heap}
theorem ok_letter1 (F : Fd K mg "_law_letter" s_letter) (Bm : Blt mg) (g_next : Gf P w K mg base 1 "_law_next" ["_law_dice_here", "_law_many"] (spNext K)) (g_part : Gf P w K mg base 1 "_law_part" ["_law_rows", "_law_number_here", "_law_begin", "_law_end"] (spPart K)) (g_beat : Gf P w K mg base 1 "_law_beat" ["_law_rows", "_law_number_here"] (spBeat K)) :
    Gf P w K mg base 2 "_law_letter" ["_law_d", "_law_keys", "_law_rows", "_law_letters"] (spLetter1 K) := by
  refine F.ok sc_letter (fun _ _ _ _ _ _ us hl => match us, hl with | [_, _, _, _], _ => rfl) len_of fun qual f cdv A outer s H vs Q E hr h => ?_
  obtain ⟨_, a, nk, cs, vr, vl, R, rfl, hk, hk8, hcl, d, rr, rl, go⟩ := h
  refine ⟨_, (pss_cons (ps_set (i := 4) sc_letter.nd rfl (Or.inl rfl) (pc g_next hr (pa_cons (pv 0) (pa_cons pe_int pa_nil))))
      (pss_cons (ps_set (i := 5) sc_letter.nd rfl (Or.inl rfl) (pc g_next hr (pa_cons (pv 0) (pa_cons (pe_callB call_len_seq rfl Bm.len (by decide +kernel) (pa_cons (pv 2) pa_nil)) pa_nil))))
      (pss_cons (ps_if (PW.pt (pw_and (pt_cmpR op_lt (pv 4) pe_int (nomark _)) (pw_and1 (pt_cmpR (op_neD hr.units) (pv 3) (pe_lst pa_nil) (nomark _)))))
        (pss_one (ps_ret (pe_ix ix_list (pv 3) (pc g_next hr (pa_cons (pv 0) (pa_cons (pe_callB call_len_seq rfl Bm.len (by decide +kernel) (pa_cons (pv 3) pa_nil)) pa_nil))) (fun _ _ => rfl))))
        pss_nil)
      (pss_cons (ps_if (pt_cmpR op_eq (pv 4) pe_int (nomark _))
        (pss_one (ps_ret (pc g_beat hr (pa_cons (pv 2) (pa_cons (pv 5) pa_nil)))))
        pss_nil)
      (pss_cons (ps_set (i := 6) sc_letter.nd rfl (Or.inl rfl) (pc g_next hr (pa_cons (pv 0) (pa_cons (pv 1) pa_nil))))
      (pss_one (ps_ret (pc g_part hr (pa_cons (pv 2) (pa_cons (pv 5) (pa_cons (pv 6) (pa_cons (pe_op op_add (pe_op op_add (pv 6) pe_int) (pc g_next hr (pa_cons (pv 0) (pa_cons (pe_op op_sub (pv 1) (pv 6)) pa_nil)))) pa_nil)))))))))))), ?_⟩
  obtain ⟨ar, xr, rfl, fr, rxr⟩ := id rr.lst_inv
  obtain ⟨al, xl, rfl, fl, rxl⟩ := id rl.lst_inv
  have hxr : xr.length = cs.length + 1 := by rw [rxr.length, rowsD_length]
  have hxl : xl.length = cs.length := by rw [rxl.length, List.length_map, lets_length]
  refine ⟨_, rfl, rfl, a, 8, R, rfl, by decide, by decide, d, fun r1 H1 p1 q1 m1 d1 => ?_⟩
  refine ⟨_, rfl, _, rfl, ar, xr, rfl, .inl (fr.mono m1).sq, rfl, a, (xr.length : Int), R, rfl, by omega, by omega, d1, fun r2 H2 p2 q2 m2 d2 => ?_⟩
  obtain ⟨n, rfl, hn⟩ : ∃ n : Nat, r2 = n ∧ n ≤ cs.length := ⟨r2.toNat, by omega, by omega⟩
  have m12 := m1.trans m2
  -- the rest behind the first if
  have rest : ∀ H3, Mono H H3 → Dice K H3 a R → tSeq (tIfS (tB (tOp rEq (tVar 4) (tC (.int 7)))) (tRet (tCall (spBeat K) [] E0 (tCons (tVar 2) (tCons (tVar 5) tNil)))) tNext)
      (tSeq (tAsg (tCall (spNext K) [] E0 (tCons (tVar 0) (tCons (tVar 1) tNil))) (gName 6)) (tRet (tCall (spPart K) [] E0 (tCons (tVar 2) (tCons (tVar 5) (tCons (tVar 6) (tCons (tOp (rI0 fun i j => .int (i + j)) (tOp (rI0 fun i j => .int (i + j)) (tVar 6) (tC (.int 1))) (tCall (spNext K) [] E0 (tCons (tVar 0) (tCons (tOp (rI0 fun i j => .int (i - j)) (tVar 1) (tVar 6)) tNil)))) tNil)))))))
      { nx := fun _ H' => Q .non H', rt := Q } [some (.ref a), some (.int nk), some (.ref ar), some (.ref al), some (.int r1), some (.int n), none] H3 := fun H3 m3 d3 => by
    refine ⟨_, rfl, rfl, _, rfl, ite2 (fun h0 => ?_) fun h0 => ?_⟩
    · exact ⟨_, rfl, _, rfl, rfl, nk, n, cs, _, rfl, hk8, hn, rr.mono m3, fun u H4 g4 r4 => go _ _ _ (.beat hn) (m3.trans g4.mono) (d3.grow g4) r4⟩
    · refine ⟨_, rfl, _, rfl, rfl, a, nk, R, rfl, by omega, by omega, d3, fun r4 H4 p4 q4 m4 d4 => ?_⟩
      obtain ⟨b, rfl, hb⟩ : ∃ b : Nat, r4 = b ∧ b < nk := ⟨r4.toNat, by omega, by omega⟩
      refine ⟨_, rfl, _, rfl, _, rfl, _, rfl, _, _, rfl, rfl, _, rfl, _, rfl, _, rfl, _, _, rfl, rfl, rfl, a, (nk : Int) - b, R, rfl, by omega, by omega, d4, fun r5 H5 p5 q5 m5 d5 => ⟨_, _, rfl, rfl, ?_⟩⟩
      obtain ⟨e, ee⟩ : ∃ e : Nat, (b : Int) + 1 + r5 = e := ⟨((b : Int) + 1 + r5).toNat, by omega⟩
      refine ⟨rfl, nk, n, b, e, cs, _, (by
        show [V.ref ar, V.int (n : Int), V.int (b : Int), V.int ((b : Int) + 1 + r5)] = _
        rw [ee]), hk8, hn, by omega, by omega, ((rr.mono m3).mono m4).mono m5, fun u H6 g6 r6 => go _ _ _ (.part hn (by omega) (by omega)) (((m3.trans m4).trans m5).trans g6.mono) (d5.grow g6) r6⟩
  refine ⟨_, rfl, _, _, rfl, rfl, _, rfl, ite2 (fun h0 => ?_) fun h0 => ?_⟩
  · refine ⟨_, rfl, (by show 0 ≤ sizeLine; decide), fun e0 he0 => ?_⟩
    have me := Mono.new (o := .lst []) he0
    have rl3 := (rl.mono m12).mono me
    refine ⟨_, _, rl3.dp, Dp.nil upd_same, (Gd.letters (lets cs)).shaped, (Gd.nil (n := 0)).shaped, _, rfl, ?_⟩
    rw [eqv_nil]
    have d3 := d2.old (o := .lst []) he0
    cases hcs : lets cs with
    | nil => exact iteM (by decide) (rest _ (m12.trans me) d3)
    | cons l0 ls0 =>
      have hpos : 0 < cs.length := by
        have := lets_length cs
        rw [hcs] at this
        rw [← this]
        exact Nat.succ_pos _
      refine iteP (by rfl) ?_
      refine ⟨_, rfl, _, rfl, _, rfl, al, xl, rfl, .inl ((fl.mono m12).mono me).sq, rfl, a, (xl.length : Int), R, rfl, by omega, by omega, d3, fun r4 H4 p4 q4 m4 d4 => ?_⟩
      have hr4 : r4.toNat < cs.length := by omega
      obtain ⟨c, ec⟩ : ∃ c, cs[r4.toNat]? = some c := ⟨cs[r4.toNat], List.getElem?_eq_getElem hr4⟩
      obtain ⟨y, ey, ry⟩ := (((rxl.mono m12).mono me).mono m4).get (i := r4.toNat) (d := (Letter.change (r4.toNat + 1) c (lof (cs.take r4.toNat) c.key)).enc) (by rw [List.getElem?_map, lets_get ec]; rfl)
      exact ⟨al, _, _, _, rfl, rfl, (((fl.mono m12).mono me).mono m4).sq, at_of (j := r4.toNat) (by omega) ey, go _ _ _ (.change ec) ((m12.trans me).trans m4) d4 ry⟩
  · exact iteM (by decide) (rest _ m12 d2)
end
end Cu

namespace Cu
open PySem PySem.Spec PyProof.Rows L2
/-! alike, by types too: the same data -/
theorem ps_dead {X : Cx} {st : Stmt} : PS X st (fun _ _ _ => False) := ⟨fun _ _ _ _ _ _ h => h.elim⟩
def rIxA (K : PySem.W.Frag) : R2 := fun x y H Q => rIxL K x y H Q ∨ rIxT K x y H Q
theorem ix_any {X : Cx} : IxR X (rIxA X.K) := by
  intro value slice pins s σ H x y v u Q I rx ry h hs
  rcases h with h | h
  · exact ix_list value slice pins s σ H x y v u Q I rx ry h hs
  · exact ix_tup value slice pins s σ H x y v u Q I rx ry h hs
theorem sqL_ty {K : PySem.W.Frag} {H : Hp} {a : Addr} {xs : List V} (h : SqL K H a xs) : TyX K H (.ref a) (.type "list") := by
  rcases h with (h | ⟨o, h⟩) | ⟨o, its, n, h1, h2, _⟩
  · exact .base (.lst h)
  · exact .base (.frz h)
  · exact .kList h1 h2
theorem sqT_ty {K : PySem.W.Frag} {H : Hp} {a : Addr} {xs : List V} (h : SqT K H a xs) : TyX K H (.ref a) (.type "tuple") := by
  rcases h with (h | ⟨o, h⟩) | ⟨o, its, n, h1, h2, _⟩
  · exact .base (.tup h)
  · exact .fTuple h
  · exact .kTuple h1 h2
theorem dpAll_get {K : PySem.W.Frag} {H : Hp} : ∀ {xs : List V} {ds : List PyData}, DpAll K H xs ds → ∀ {k : Nat}, k < xs.length → ∃ x d, xs[k]? = some x ∧ ds[k]? = some d ∧ Dp K H x d
  | _, _, .nil, _, h => absurd h (Nat.not_lt_zero _)
  | _, _, .cons h hs, 0, _ => ⟨_, _, rfl, rfl, h⟩
  | _, _, .cons h hs, k + 1, hk => dpAll_get hs (Nat.lt_of_succ_lt_succ hk)
theorem dpAll_len {K : PySem.W.Frag} {H : Hp} : ∀ {xs : List V} {ds : List PyData}, DpAll K H xs ds → xs.length = ds.length
  | _, _, .nil => rfl
  | _, _, .cons _ hs => congrArg (· + 1) (dpAll_len hs)
theorem depth_mem : ∀ {ds : List PyData} {d : PyData}, d ∈ ds → d.depth ≤ PyData.depthAll ds
  | e :: ds, d, h => by
    rw [PyData.depthAll]
    rcases List.mem_cons.mp h with h | h
    · rw [h]
      exact Nat.le_max_left _ _
    · exact Nat.le_trans (depth_mem h) (Nat.le_max_right _ _)
mutual
def wid : PyData → Nat
  | .list xs | .tuple xs => max xs.length (widAll xs)
  | _ => 0
def widAll : List PyData → Nat
  | [] => 0
  | x :: xs => max (wid x) (widAll xs)
end
theorem wid_mem : ∀ {ds : List PyData} {d : PyData}, d ∈ ds → wid d ≤ widAll ds
  | e :: ds, d, h => by
    rw [widAll]
    rcases List.mem_cons.mp h with h | h
    · rw [h]
      exact Nat.le_max_left _ _
    · exact Nat.le_trans (wid_mem h) (Nat.le_max_right _ _)
theorem canMem : ∀ {ds : List PyData} {d : PyData}, PyData.canLayAll0 ds = true → d ∈ ds → d.canLay0 = true
  | e :: ds, d, hc, h => by
    have hc : e.canLay0 = true ∧ PyData.canLayAll0 ds = true := by simpa [PyData.canLayAll0] using hc
    rcases List.mem_cons.mp h with h | h
    · rw [h]
      exact hc.1
    · exact canMem hc.2 h
abbrev s_like : Stmt := (top 21)
theorem sc_like : FnScope ["_law_found", "_law_due_here", "_law_k", "_law_key"] ["_law_found", "_law_due_here"] (defScope s_like) := ⟨rfl, rfl, rfl, by decide +kernel, rfl, by decide +kernel, by decide +kernel⟩

def spLike (K : PySem.W.Frag) (n : Nat) : Sp := fun vs H Q _ => vs.length = 2 ∧ ∃ (d : PyData) (x y : V), vs = [x, y] ∧ Dp K H x d ∧ Dp K H y d ∧ d.canLay0 = true ∧ d.depth < n ∧ wid d ≤ 1000 ∧ Q (.bl true) H
section
variable {P : Program} {w : World} {K : PySem.W.Frag} {mg : Str → Option Value} {base : Heap}
theorem like_zero (F : Fd K mg "_law_like" s_like) : Gf P w K mg base 0 "_law_like" ["_law_found", "_law_due_here"] (spLike K 0) := by
  obtain ⟨f, fd, F, hm⟩ := F.ex
  have no : ∀ {vs H Q E}, spLike K 0 vs H Q E → False := fun ⟨_, _, _, _, _, _, _, _, h, _⟩ => Nat.not_lt_zero _ h
  exact ⟨f, fd, ⟨fun _ _ _ _ h => (no h).elim, fun _ _ _ _ _ _ _ _ _ _ _ _ _ h => (no h).elim⟩, hm, F.kp, F.binds fun _ _ _ _ _ _ us hl => match us, hl with | [_, _], _ => rfl⟩
theorem like_step (F : Fd K mg "_law_like" s_like) (Bm : Blt mg) {n : Nat} (g_like : Gf P w K mg base n "_law_like" ["_law_found", "_law_due_here"] (spLike K n)) : Gf P w K mg base (n + 1) "_law_like" ["_law_found", "_law_due_here"] (spLike K (n + 1)) := by
  refine F.ok sc_like (fun _ _ _ _ _ _ us hl => match us, hl with | [_, _], _ => rfl) len_of fun qual f cdv A outer s H vs Q E hr h => ?_
  obtain ⟨_, d, x, y, rfl, dx, dy, hl, hd, hw, go⟩ := h
  refine ⟨_, (pss_cons (ps_if (pt_val (pe_callB call_isi rfl Bm.isinstance (by decide +kernel) (pa_cons (pv 1) (pa_cons (pe_bltn (v := .ty "bool") (u := .type "bool") rfl Bm.bool (by decide +kernel) rfl) pa_nil))))
        (pss_one (ps_ret (pe_and (pe_callB call_isi rfl Bm.isinstance (by decide +kernel) (pa_cons (pv 0) (pa_cons (pe_bltn (v := .ty "bool") (u := .type "bool") rfl Bm.bool (by decide +kernel) rfl) pa_nil))) (pe_one (pe_cmpR (op_eqD hr.units) (pv 0) (pv 1) (nomark _))))))
        pss_nil)
      (pss_cons (ps_if (pt_val (pe_callB call_isi rfl Bm.isinstance (by decide +kernel) (pa_cons (pv 1) (pa_cons (pe_bltn (v := .ty "str") (u := .type "str") rfl Bm.str (by decide +kernel) rfl) pa_nil))))
        (pss_one (ps_ret (pe_and (pe_callB call_isi rfl Bm.isinstance (by decide +kernel) (pa_cons (pv 0) (pa_cons (pe_bltn (v := .ty "str") (u := .type "str") rfl Bm.str (by decide +kernel) rfl) pa_nil))) (pe_one (pe_cmpR (op_eqD hr.units) (pv 0) (pv 1) (nomark _))))))
        pss_nil)
      (pss_cons (ps_if (pt_val (pe_callB call_isi rfl Bm.isinstance (by decide +kernel) (pa_cons (pv 1) (pa_cons (pe_bltn (v := .ty "int") (u := .type "int") rfl Bm.int (by decide +kernel) rfl) pa_nil))))
        (pss_one (ps_ret (pe_and (pe_callB call_isi rfl Bm.isinstance (by decide +kernel) (pa_cons (pv 0) (pa_cons (pe_bltn (v := .ty "int") (u := .type "int") rfl Bm.int (by decide +kernel) rfl) pa_nil))) (pe_and (pe_not (pe_callB call_isi rfl Bm.isinstance (by decide +kernel) (pa_cons (pv 0) (pa_cons (pe_bltn (v := .ty "bool") (u := .type "bool") rfl Bm.bool (by decide +kernel) rfl) pa_nil)))) (pe_one (pe_cmpR (op_eqD hr.units) (pv 0) (pv 1) (nomark _)))))))
        pss_nil)
      (pss_cons (ps_if (pt_cmpR op_isN (pv 1) pe_non (nomark _))
        (pss_one (ps_ret (pe_cmpR op_isN (pv 0) pe_non (nomark _))))
        pss_nil)
      (pss_cons (ps_if (pt_val (pe_callB call_isi rfl Bm.isinstance (by decide +kernel) (pa_cons (pv 1) (pa_cons (pe_bltn (v := .ty "dict") (u := .type "dict") rfl Bm.dict (by decide +kernel) rfl) pa_nil))))
        (pss_cons ps_dead
        (pss_one ps_dead))
        pss_nil)
      (pss_cons (ps_if (PW.pt (pw_or (pt_cmpR op_ne (pe_callB call_isi rfl Bm.isinstance (by decide +kernel) (pa_cons (pv 1) (pa_cons (pe_bltn (v := .ty "tuple") (u := .type "tuple") rfl Bm.tuple (by decide +kernel) rfl) pa_nil))) (pe_callB call_isi rfl Bm.isinstance (by decide +kernel) (pa_cons (pv 0) (pa_cons (pe_bltn (v := .ty "tuple") (u := .type "tuple") rfl Bm.tuple (by decide +kernel) rfl) pa_nil))) (nomark _)) (pw_or1 (pt_cmpR op_ne (pe_callB call_isi rfl Bm.isinstance (by decide +kernel) (pa_cons (pv 1) (pa_cons (pe_bltn (v := .ty "list") (u := .type "list") rfl Bm.list (by decide +kernel) rfl) pa_nil))) (pe_callB call_isi rfl Bm.isinstance (by decide +kernel) (pa_cons (pv 0) (pa_cons (pe_bltn (v := .ty "list") (u := .type "list") rfl Bm.list (by decide +kernel) rfl) pa_nil))) (nomark _)))))
        (pss_one (ps_ret pe_bl))
        pss_nil)
      (pss_cons (ps_if (pt_cmpR op_ne (pe_callB call_len_seq rfl Bm.len (by decide +kernel) (pa_cons (pv 0) pa_nil)) (pe_callB call_len_seq rfl Bm.len (by decide +kernel) (pa_cons (pv 1) pa_nil)) (nomark _))
        (pss_one (ps_ret pe_bl))
        pss_nil)
      (pss_cons (ps_for PassesOwn.never rfl (pi_range1 rfl Bm.range (pa_cons (pe_callB call_len_seq rfl Bm.len (by decide +kernel) (pa_cons (pv 1) pa_nil)) pa_nil)) (pg_name (i := 2) sc_like.nd rfl (Or.inl rfl))
        (pss_one (ps_if (pt_not (pt_val (pc g_like hr (pa_cons (pe_ix ix_any (pv 0) (pv 2) (fun _ _ => rfl)) (pa_cons (pe_ix ix_any (pv 1) (pv 2) (fun _ _ => rfl)) pa_nil)) (hj := Nat.le_refl _))))
          (pss_one (ps_ret pe_bl))
          pss_nil)))
      (pss_one (ps_ret pe_bl)))))))))), ?_⟩
  cases d with
  | none =>
    cases dx
    cases dy
    have t : TyX K H .non (.type "NoneType") := .base .non
    refine ⟨_, rfl, _, _, _, _, false, rfl, ClsV.ty _, t, kit_ty (by decide +kernel), _, rfl, iteM (by decide) ?_⟩
    refine ⟨_, rfl, _, _, _, _, false, rfl, ClsV.ty _, t, kit_ty (by decide +kernel), _, rfl, iteM (by decide) ?_⟩
    refine ⟨_, rfl, _, _, _, _, false, rfl, ClsV.ty _, t, kit_ty (by decide +kernel), _, rfl, iteM (by decide) ?_⟩
    refine ⟨_, rfl, rfl, _, rfl, iteP (by decide) ?_⟩
    exact ⟨_, rfl, rfl, go⟩
  | bool b =>
    cases dx
    cases dy
    have t : TyX K H (.bl b) (.type "bool") := .base (.bl b)
    refine ⟨_, rfl, _, _, _, _, true, rfl, ClsV.ty _, t, kit_ty (by decide +kernel), _, rfl, iteP (by decide) ?_⟩
    refine ⟨_, rfl, _, _, _, _, true, rfl, ClsV.ty _, t, kit_ty (by decide +kernel), ?_⟩
    refine ⟨_, rfl, iteP rfl ?_⟩
    refine ⟨_, rfl, _, rfl, _, _, Dp.bl b, Dp.bl b, (Gd.bool (n := 0)).shaped, (Gd.bool (n := 0)).shaped, ?_⟩
    rw [(Gd.bool (n := 0) (b := b)).refl]
    exact go
  | int i =>
    cases dx
    cases dy
    have t : TyX K H (.int i) (.type "int") := .base (.int i)
    refine ⟨_, rfl, _, _, _, _, false, rfl, ClsV.ty _, t, kit_ty (by decide +kernel), _, rfl, iteM (by decide) ?_⟩
    refine ⟨_, rfl, _, _, _, _, false, rfl, ClsV.ty _, t, kit_ty (by decide +kernel), _, rfl, iteM (by decide) ?_⟩
    refine ⟨_, rfl, _, _, _, _, true, rfl, ClsV.ty _, t, kit_ty (by decide +kernel), _, rfl, iteP (by decide) ?_⟩
    refine ⟨_, rfl, _, _, _, _, true, rfl, ClsV.ty _, t, kit_ty (by decide +kernel), _, rfl, iteP rfl ?_⟩
    refine ⟨_, rfl, _, _, _, _, false, rfl, ClsV.ty _, t, kit_ty (by decide +kernel), _, rfl, _, rfl, iteP rfl ?_⟩
    refine ⟨_, rfl, _, rfl, _, _, Dp.int i, Dp.int i, (Gd.int (n := 0)).shaped, (Gd.int (n := 0)).shaped, ?_⟩
    rw [(Gd.int (n := 0) (i := i)).refl]
    exact go
  | str z =>
    cases dx
    cases dy
    have t : TyX K H (.str z) (.type "str") := .base (.str z)
    refine ⟨_, rfl, _, _, _, _, false, rfl, ClsV.ty _, t, kit_ty (by decide +kernel), _, rfl, iteM (by decide) ?_⟩
    refine ⟨_, rfl, _, _, _, _, true, rfl, ClsV.ty _, t, kit_ty (by decide +kernel), _, rfl, iteP (by decide) ?_⟩
    refine ⟨_, rfl, _, _, _, _, true, rfl, ClsV.ty _, t, kit_ty (by decide +kernel), _, rfl, iteP rfl ?_⟩
    have hz : Gd 0 (.str z) := ⟨hl, by simp [PyData.depth]⟩
    refine ⟨_, rfl, _, rfl, _, _, Dp.str z, Dp.str z, hz.shaped, hz.shaped, ?_⟩
    rw [hz.refl]
    exact go
  | list ds =>
    cases dx with
    | @lst ax xs _ sx ex =>
    cases dy with
    | @lst ay ys _ sy ey =>
    have tx := sqL_ty sx
    have ty := sqL_ty sy
    have lx := dpAll_len ex
    have ly := dpAll_len ey
    have hwl : ds.length ≤ 1000 := Nat.le_trans (Nat.le_max_left _ _) hw
    refine ⟨_, rfl, _, _, _, _, false, rfl, ClsV.ty _, ty, kit_ty (by decide +kernel), _, rfl, iteM (by decide) ?_⟩
    refine ⟨_, rfl, _, _, _, _, false, rfl, ClsV.ty _, ty, kit_ty (by decide +kernel), _, rfl, iteM (by decide) ?_⟩
    refine ⟨_, rfl, _, _, _, _, false, rfl, ClsV.ty _, ty, kit_ty (by decide +kernel), _, rfl, iteM (by decide) ?_⟩
    refine ⟨_, rfl, rfl, _, rfl, iteM (by simp) ?_⟩
    refine ⟨_, rfl, _, _, _, _, false, rfl, ClsV.ty _, ty, kit_ty (by decide +kernel), _, rfl, iteM (by decide) ?_⟩
    refine ⟨_, rfl, _, _, _, _, false, rfl, ClsV.ty _, ty, kit_ty (by decide +kernel), _, rfl, _, _, _, _, false, rfl, ClsV.ty _, tx, kit_ty (by decide +kernel), rfl, _, rfl, iteM (by decide) ?_⟩
    refine ⟨_, rfl, _, _, _, _, true, rfl, ClsV.ty _, ty, kit_ty (by decide +kernel), _, rfl, _, _, _, _, true, rfl, ClsV.ty _, tx, kit_ty (by decide +kernel), rfl, _, rfl, iteM (by decide) ?_⟩
    refine ⟨_, rfl, ax, xs, rfl, .inl sx, _, rfl, ay, ys, rfl, .inl sy, rfl, _, rfl, iteM (by rw [lx, ly]; simp) ?_⟩
    refine ⟨_, rfl, ay, ys, rfl, .inl sy, _, rfl, by omega, by omega, for_range (lo := 0) (n := (ys.length : Int).toNat) (fun k σ H2 => ∃ v2, σ = [some (.ref ax), some (.ref ay), v2, none] ∧ H2 = H) ⟨none, rfl, rfl⟩ ?_ ?_⟩
    · rintro k σ _ hk ⟨v2, rfl, rfl⟩
      have hk' : k < ys.length := by omega
      have ez : ((0 : Int) + k) = (k : Int) := by omega
      obtain ⟨v, e, e1, e2, e3⟩ := dpAll_get ex (k := k) (by omega)
      obtain ⟨v', e', e4, e5, e6⟩ := dpAll_get ey hk'
      rw [e2] at e5
      cases e5
      have hm := List.mem_of_getElem? e2
      refine ⟨_, rfl, _, rfl, .inl ⟨ax, xs, _, v, rfl, rfl, sx, at_of (j := k) ez e1, ?_⟩⟩
      refine ⟨_, rfl, _, rfl, .inl ⟨ay, ys, _, v', rfl, rfl, sy, at_of (j := k) ez e4, ?_⟩⟩
      refine ⟨rfl, e, v, v', rfl, e3, e6, canMem (by simpa [PyData.canLay0] using hl) hm, ?_, Nat.le_trans (wid_mem hm) (Nat.le_trans (Nat.le_max_right _ _) hw), _, rfl, iteM (by decide) ⟨_, rfl, rfl⟩⟩
      have := depth_mem hm
      have hd : PyData.depthAll ds + 1 < n + 1 := hd
      omega
    · rintro σ _ ⟨v2, rfl, rfl⟩
      exact go
  | tuple ds =>
    cases dx with
    | @tup ax xs _ sx ex =>
    cases dy with
    | @tup ay ys _ sy ey =>
    have tx := sqT_ty sx
    have ty := sqT_ty sy
    have lx := dpAll_len ex
    have ly := dpAll_len ey
    have hwl : ds.length ≤ 1000 := Nat.le_trans (Nat.le_max_left _ _) hw
    refine ⟨_, rfl, _, _, _, _, false, rfl, ClsV.ty _, ty, kit_ty (by decide +kernel), _, rfl, iteM (by decide) ?_⟩
    refine ⟨_, rfl, _, _, _, _, false, rfl, ClsV.ty _, ty, kit_ty (by decide +kernel), _, rfl, iteM (by decide) ?_⟩
    refine ⟨_, rfl, _, _, _, _, false, rfl, ClsV.ty _, ty, kit_ty (by decide +kernel), _, rfl, iteM (by decide) ?_⟩
    refine ⟨_, rfl, rfl, _, rfl, iteM (by simp) ?_⟩
    refine ⟨_, rfl, _, _, _, _, false, rfl, ClsV.ty _, ty, kit_ty (by decide +kernel), _, rfl, iteM (by decide) ?_⟩
    refine ⟨_, rfl, _, _, _, _, true, rfl, ClsV.ty _, ty, kit_ty (by decide +kernel), _, rfl, _, _, _, _, true, rfl, ClsV.ty _, tx, kit_ty (by decide +kernel), rfl, _, rfl, iteM (by decide) ?_⟩
    refine ⟨_, rfl, _, _, _, _, false, rfl, ClsV.ty _, ty, kit_ty (by decide +kernel), _, rfl, _, _, _, _, false, rfl, ClsV.ty _, tx, kit_ty (by decide +kernel), rfl, _, rfl, iteM (by decide) ?_⟩
    refine ⟨_, rfl, ax, xs, rfl, .inr sx, _, rfl, ay, ys, rfl, .inr sy, rfl, _, rfl, iteM (by rw [lx, ly]; simp) ?_⟩
    refine ⟨_, rfl, ay, ys, rfl, .inr sy, _, rfl, by omega, by omega, for_range (lo := 0) (n := (ys.length : Int).toNat) (fun k σ H2 => ∃ v2, σ = [some (.ref ax), some (.ref ay), v2, none] ∧ H2 = H) ⟨none, rfl, rfl⟩ ?_ ?_⟩
    · rintro k σ _ hk ⟨v2, rfl, rfl⟩
      have hk' : k < ys.length := by omega
      have ez : ((0 : Int) + k) = (k : Int) := by omega
      obtain ⟨v, e, e1, e2, e3⟩ := dpAll_get ex (k := k) (by omega)
      obtain ⟨v', e', e4, e5, e6⟩ := dpAll_get ey hk'
      rw [e2] at e5
      cases e5
      have hm := List.mem_of_getElem? e2
      refine ⟨_, rfl, _, rfl, .inr ⟨ax, xs, _, v, rfl, rfl, sx, at_of (j := k) ez e1, ?_⟩⟩
      refine ⟨_, rfl, _, rfl, .inr ⟨ay, ys, _, v', rfl, rfl, sy, at_of (j := k) ez e4, ?_⟩⟩
      refine ⟨rfl, e, v, v', rfl, e3, e6, canMem (by simpa [PyData.canLay0] using hl) hm, ?_, Nat.le_trans (wid_mem hm) (Nat.le_trans (Nat.le_max_right _ _) hw), _, rfl, iteM (by decide) ⟨_, rfl, rfl⟩⟩
      have := depth_mem hm
      have hd : PyData.depthAll ds + 1 < n + 1 := hd
      omega
    · rintro σ _ ⟨v2, rfl, rfl⟩
      exact go
  | dict kvs => cases dx
theorem ok_like (F : Fd K mg "_law_like" s_like) (Bm : Blt mg) : Gf P w K mg base 4 "_law_like" ["_law_found", "_law_due_here"] (spLike K 4) := by
  exact like_step F Bm (like_step F Bm (like_step F Bm (like_step F Bm (like_zero F))))
end
end Cu

namespace Cu
open PySem PySem.Spec PyProof.Rows L2
open TL (tl numL)
open PySem.NumText (AllDigits digitsVal)
/-! texts: the words of a letter, what a word writes, what words are -/
abbrev nS (i : Int) : Str := Str.ofString (toString i)
/-- the figures of a word -/
def figs (w : List Nat) : List Nat := if w.head? = some 45 then w.tail else w
def digs (w : List Nat) : Bool := w.all fun c => decide (48 ≤ c) && decide (c ≤ 57)
def figOk (w : List Nat) : Bool := decide (1 ≤ (figs w).length) && decide ((figs w).length ≤ 9) && digs (figs w)
def nought (w : List Nat) : Bool := decide ((figs w).head? = some 48) && decide (w ≠ [48])
def valW (w : List Nat) : Int := if w.head? = some 45 then -((digitsVal (figs w) : Nat) : Int) else (digitsVal (figs w) : Nat)
def numL' (w : List Nat) : Option Int := if figOk w = true then (if nought w = true then none else some (valW w)) else none
def numW (x : Str) : Option Int := numL' (tl x)
theorem digs_all {w : List Nat} (h : digs w = true) : AllDigits w := fun c hc => by
  have q := List.all_eq_true.mp h c hc
  simp only [Bool.and_eq_true, decide_eq_true_eq] at q
  exact q
theorem digs_of {w : List Nat} (h : AllDigits w) : digs w = true := List.all_eq_true.mpr fun c hc => by
  have q := h c hc
  simp only [Bool.and_eq_true, decide_eq_true_eq]
  exact q
theorem numW_int {x : Str} (h : figOk (tl x) = true) : intText? x = some (valW (tl x)) ∧ x.length ≤ 640 := by
  have hx := TL.len_tl x
  unfold figOk figs at h
  simp only [Bool.and_eq_true, decide_eq_true_eq] at h
  obtain ⟨⟨h1, h2⟩, h3⟩ := h
  unfold valW figs
  cases e : tl x with
  | nil =>
    rw [e] at h1
    simp at h1
  | cons c r =>
    rw [e] at h1 h2 h3 hx
    rw [List.length_cons] at hx
    by_cases hc : c = 45
    · subst hc
      simp only [List.head?_cons, if_true, List.tail_cons] at h1 h2 h3 ⊢
      refine ⟨PySem.intText_neg e (digs_all h3) (fun z => ?_) (by omega), by omega⟩
      rw [z] at h1
      simp at h1
    · have hne : ¬ (some c = some (45 : Nat)) := fun z => hc (Option.some.inj z)
      simp only [List.head?_cons, hne, if_false] at h1 h2 h3 ⊢
      rw [List.length_cons] at h2
      refine ⟨?_, by omega⟩
      have q := PySem.intText_digits (x := x) (show AllDigits (tl x) by rw [e]; exact digs_all h3) (show tl x ≠ [] by rw [e]; simp) (by omega)
      rw [q]
      show some (((digitsVal (tl x) : Nat)) : Int) = _
      rw [e]
theorem numW_some {x : Str} {n : Int} (h : numW x = some n) : figOk (tl x) = true ∧ nought (tl x) = false ∧ n = valW (tl x) := by
  unfold numW numL' at h
  by_cases h1 : figOk (tl x) = true
  · rw [if_pos h1] at h
    by_cases h2 : nought (tl x) = true
    · rw [if_pos h2] at h
      cases h
    · rw [if_neg h2] at h
      exact ⟨h1, by simpa using h2, (Option.some.inj h).symm⟩
  · rw [if_neg h1] at h
    cases h
theorem numW_text {x : Str} {n : Int} (h : numW x = some n) : intText? x = some n ∧ x.length ≤ 640 := by
  obtain ⟨h1, _, rfl⟩ := numW_some h
  exact numW_int h1
theorem tl_neg {i : Int} (h : i < 0) : tl (nS i) = 45 :: numL (-i).toNat := by
  show (Str.ofString (toString i)).cps.toList = _
  rw [signs_ofString, Int.toString_eq_repr, Int.repr_eq_if, if_neg (by omega), String.toList_append, Nat.toList_repr, List.map_append]
  rfl
theorem tl_pos {i : Int} (h : 0 ≤ i) : tl (nS i) = numL i.toNat := by
  obtain ⟨n, rfl⟩ := Int.eq_ofNat_of_zero_le h
  exact TL.tl_num n
theorem numL_head {n : Nat} : ∀ {c : Nat}, (numL n).head? = some c → 48 ≤ c ∧ c ≤ 57 ∧ (c = 48 → n = 0) := by
  induction n using Nat.strongRecOn with
  | _ n ih =>
    intro c hc
    by_cases h : n < 10
    · rw [TL.numL_lt h] at hc
      have e : 48 + n = c := by simpa using hc
      omega
    · rw [TL.numL_step (by omega)] at hc
      have hne := TL.numL_ne (n / 10)
      cases e : numL (n / 10) with
      | nil => exact absurd e hne
      | cons d r =>
        have := ih (n / 10) (by omega) (c := d) (by rw [e]; rfl)
        rw [e] at hc
        have e2 : d = c := by simpa using hc
        subst e2
        omega
theorem numW_nS {i : Int} (h1 : -1000000000 < i) (h2 : i < 1000000000) : numW (nS i) = some i := by
  have ln : ∀ n : Nat, n < 1000000000 → (numL n).length ≤ 9 := fun n h => TL.numL_len (by decide) (by simpa using h)
  have l1 : ∀ n : Nat, 1 ≤ (numL n).length := fun n => List.length_pos_iff.mpr (TL.numL_ne n)
  by_cases h0 : 0 ≤ i
  · obtain ⟨n, rfl⟩ := Int.eq_ofNat_of_zero_le h0
    have e := tl_pos h0
    rw [Int.toNat_natCast] at e
    have hd : (numL n).head? ≠ some 45 := fun z => by
      have := numL_head z
      omega
    have ef : figs (numL n) = numL n := if_neg hd
    have hf : figOk (tl (nS n)) = true := by
      rw [e]
      unfold figOk
      rw [ef, digs_of (TL.numL_digits n), decide_eq_true (l1 n), decide_eq_true (ln n (by omega))]
      rfl
    have hn : nought (tl (nS n)) = false := by
      rw [e]
      unfold nought
      rw [ef]
      by_cases z : (numL n).head? = some 48
      · have := (numL_head z).2.2 rfl
        subst this
        decide +kernel
      · rw [decide_eq_false z]
        rfl
    unfold numW numL'
    rw [if_pos hf, hn, if_neg Bool.false_ne_true]
    unfold valW
    rw [e, if_neg hd, ef, TL.numL_val]
  · have e := tl_neg (i := i) (by omega)
    have hd : (45 :: numL (-i).toNat).head? = some 45 := rfl
    have ef : figs (45 :: numL (-i).toNat) = numL (-i).toNat := if_pos hd
    have hf : figOk (tl (nS i)) = true := by
      rw [e]
      unfold figOk
      rw [ef, digs_of (TL.numL_digits _), decide_eq_true (l1 _), decide_eq_true (ln _ (by omega))]
      rfl
    have hn : nought (tl (nS i)) = false := by
      rw [e]
      unfold nought
      rw [ef]
      by_cases z : (numL (-i).toNat).head? = some 48
      · have := (numL_head z).2.2 rfl
        omega
      · rw [decide_eq_false z]
        rfl
    unfold numW numL'
    rw [if_pos hf, hn, if_neg Bool.false_ne_true]
    unfold valW
    rw [e, if_pos hd, ef, TL.numL_val]
    congr 1
    omega
theorem nS_free (i : Int) : (32 : Nat) ∉ tl (nS i) := int_text_free' 32 ⟨by decide, by decide⟩ i
theorem nS_len {i : Int} (h1 : -1000000000 < i) (h2 : i < 1000000000) : (nS i).length ≤ 10 := by
  have ln : ∀ n : Nat, n < 1000000000 → (numL n).length ≤ 9 := fun n h => TL.numL_len (by decide) (by simpa using h)
  rw [TL.len_tl]
  by_cases h0 : 0 ≤ i
  · rw [tl_pos h0]
    have := ln i.toNat (by omega)
    omega
  · rw [tl_neg (by omega), List.length_cons]
    have := ln (-i).toNat (by omega)
    omega
/-! ### words -/
def kindOk (w : Str) : Bool := w == "change" || w == "part" || w == "beat"
/-- may the word at a place stand there -/
def rightW (ws : List Str) (i : Nat) : Bool :=
  if i = 0 then kindOk (ws.getD 0 "")
  else if ws.getD 0 "" = "change" ∧ i = 3 then (ws.getD 3 "" == "set" || ws.getD 3 "" == "add")
  else match numW (ws.getD i "") with
    | none => false
    | some n => if ws.getD 0 "" = "change" ∧ 5 < i then false else if (ws.getD 0 "" = "change" ∧ i = 4) ∨ (ws.getD 0 "" = "part" ∧ 2 < i ∧ i % 2 = 1) then true else decide (0 ≤ n)
def doneW (ws : List Str) : Bool :=
  if ws.getD 0 "" = "change" then decide (ws.length = 6) else if ws.getD 0 "" = "part" then decide (4 < ws.length) && decide (ws.length % 2 = 1) else decide (2 < ws.length)
/-- the first place where a word can't stand, or how many words there are -/
def badW (ws : List Str) : Option Nat := match (List.range ws.length).find? fun i => !rightW ws i with
  | some i => some i
  | none => if doneW ws then none else some ws.length
def numD (w : Str) : Int := (numW w).getD 0
def pairs : List Int → List (Int × Int)
  | a :: b :: r => (a, b) :: pairs r
  | _ => []
/-- the letter that words write -/
def letD (ws : List Str) : PyData :=
  if ws.getD 0 "" = "change" then .tuple [.str "change", .int (numD (ws.getD 1 "")), .int (numD (ws.getD 2 "")), .str (ws.getD 3 ""), .int (numD (ws.getD 4 "")), .int (numD (ws.getD 5 ""))]
  else if ws.getD 0 "" = "beat" then .tuple [.str "beat", .int (numD (ws.getD 1 "")), .tuple ((ws.drop 2).map fun w => .int (numD w))]
  else .tuple [.str "part", .int (numD (ws.getD 1 "")), .int (numD (ws.getD 2 "")), .tuple ((pairs ((ws.drop 3).map numD)).map fun r => .tuple [.int r.1, .int r.2])]
/-- the numbers of a part or a beat -/
def flatR : List (Int × Nat) → List Int
  | [] => []
  | r :: rs => r.1 :: (r.2 : Int) :: flatR rs
def wordsL : Letter → List Str
  | .change n c a => ["change", nS n, nS c.key, wd c.set, nS c.worth, nS a]
  | .part n b rows => "part" :: nS n :: nS b :: (flatR rows).map nS
  | .beat n ls => "beat" :: nS n :: ls.map fun k : Nat => nS k
def textL (l : Letter) : Str := Txt.join " " (wordsL l)
/-- numbers of up to nine figures -/
def Small : Letter → Prop
  | .change n c a => n < 1000000000 ∧ c.key < 1000000000 ∧ -1000000000 < c.worth ∧ c.worth < 1000000000 ∧ a < 1000000000
  | .part n b rows => n < 1000000000 ∧ b < 1000000000 ∧ 0 < rows.length ∧ rows.length ≤ 8 ∧ ∀ r ∈ rows, -1000000000 < r.1 ∧ r.1 < 1000000000 ∧ r.2 < 1000000000
  | .beat n ls => n < 1000000000 ∧ 0 < ls.length ∧ ls.length ≤ 8 ∧ ∀ k ∈ ls, k < 1000000000
theorem flatR_len (rows : List (Int × Nat)) : (flatR rows).length = 2 * rows.length := by
  induction rows with
  | nil => rfl
  | cons r rs ih => simp only [flatR, List.length_cons, ih]; omega
theorem flatR_get (rows : List (Int × Nat)) : ∀ i, (flatR rows)[2 * i]? = (rows[i]?).map Prod.fst ∧ (flatR rows)[2 * i + 1]? = (rows[i]?).map fun r => (r.2 : Int) := by
  induction rows with
  | nil => intro i; simp [flatR]
  | cons r rs ih =>
    intro i
    cases i with
    | zero => simp [flatR]
    | succ i =>
      have e1 : 2 * (i + 1) = 2 * i + 1 + 1 := by omega
      have e2 : 2 * (i + 1) + 1 = 2 * i + 1 + 1 + 1 := by omega
      rw [e1, show 2 * i + 1 + 1 + 1 = (2 * i + 1) + 1 + 1 by omega]
      simp only [flatR, List.getElem?_cons_succ]
      exact ih i
theorem pairs_flat (rows : List (Int × Nat)) : pairs (flatR rows) = rows.map fun r => (r.1, (r.2 : Int)) := by
  induction rows with
  | nil => rfl
  | cons r rs ih => simp only [flatR, pairs, ih, List.map_cons]
theorem flatR_small {rows : List (Int × Nat)} (h : ∀ r ∈ rows, -1000000000 < r.1 ∧ r.1 < 1000000000 ∧ r.2 < 1000000000) : ∀ z ∈ flatR rows, -1000000000 < z ∧ z < 1000000000 := by
  induction rows with
  | nil => intro z hz; cases hz
  | cons r rs ih =>
    intro z hz
    have hr := h r List.mem_cons_self
    rcases List.mem_cons.mp hz with e | hz
    · rw [e]; exact ⟨hr.1, hr.2.1⟩
    · rcases List.mem_cons.mp hz with e | hz
      · rw [e]; omega
      · exact ih (fun r hr => h r (List.mem_cons_of_mem _ hr)) z hz
theorem wordsL_len {l : Letter} (h : Small l) : 3 ≤ (wordsL l).length ∧ (wordsL l).length ≤ 20 := by
  cases l with
  | change n c a => exact ⟨by simp [wordsL], by simp [wordsL]⟩
  | part n b rows =>
    have := flatR_len rows
    obtain ⟨_, _, h1, h2, _⟩ := h
    simp only [wordsL, List.length_cons, List.length_map]
    omega
  | beat n ls =>
    obtain ⟨_, h1, h2, _⟩ := h
    simp only [wordsL, List.length_cons, List.length_map]
    omega
theorem wordsL_free (l : Letter) : ∀ w ∈ wordsL l, (32 : Nat) ∉ tl w := by
  have hc : (32 : Nat) ∉ tl "change" := by decide +kernel
  have hp : (32 : Nat) ∉ tl "part" := by decide +kernel
  have hb : (32 : Nat) ∉ tl "beat" := by decide +kernel
  have hw : ∀ b, (32 : Nat) ∉ tl (wd b) := fun b => by cases b <;> decide +kernel
  have hm : ∀ (zs : List Int), ∀ w ∈ zs.map nS, (32 : Nat) ∉ tl w := fun zs w hw => by
    obtain ⟨z, _, rfl⟩ := List.mem_map.mp hw
    exact nS_free z
  intro w h
  cases l with
  | change n c a =>
    simp only [wordsL, List.mem_cons, List.not_mem_nil, or_false] at h
    rcases h with rfl | rfl | rfl | rfl | rfl | rfl
    · exact hc
    · exact nS_free _
    · exact nS_free _
    · exact hw _
    · exact nS_free _
    · exact nS_free _
  | part n b rows =>
    simp only [wordsL, List.mem_cons] at h
    rcases h with rfl | rfl | rfl | h
    · exact hp
    · exact nS_free _
    · exact nS_free _
    · exact hm _ w h
  | beat n ls =>
    simp only [wordsL, List.mem_cons] at h
    rcases h with rfl | rfl | h
    · exact hb
    · exact nS_free _
    · obtain ⟨z, _, rfl⟩ := List.mem_map.mp h
      exact nS_free _
theorem split_words {ws : List Str} (hne : ws ≠ []) (h : ∀ w ∈ ws, (32 : Nat) ∉ tl w) : Txt.split (Txt.join " " ws) " " = ws :=
  TL.split_join (s := 32) (S := []) (by decide +kernel) (by decide +kernel) hne h
theorem wordsL_small {l : Letter} (h : Small l) : ∀ w ∈ wordsL l, w.length ≤ 10 := by
  have hm : ∀ (zs : List Int), (∀ z ∈ zs, -1000000000 < z ∧ z < 1000000000) → ∀ w ∈ zs.map nS, w.length ≤ 10 := fun zs hz w hw => by
    obtain ⟨z, q, rfl⟩ := List.mem_map.mp hw
    exact nS_len (hz z q).1 (hz z q).2
  intro w hw
  cases l with
  | change n c a =>
    obtain ⟨h1, h2, h3, h4, h5⟩ := h
    simp only [wordsL, List.mem_cons, List.not_mem_nil, or_false] at hw
    rcases hw with rfl | rfl | rfl | rfl | rfl | rfl
    · decide +kernel
    · exact nS_len (by omega) (by omega)
    · exact nS_len (by omega) (by omega)
    · cases c.set <;> decide +kernel
    · exact nS_len h3 h4
    · exact nS_len (by omega) (by omega)
  | part n b rows =>
    obtain ⟨h1, h2, _, _, h3⟩ := h
    simp only [wordsL, List.mem_cons] at hw
    rcases hw with rfl | rfl | rfl | hw
    · decide +kernel
    · exact nS_len (by omega) (by omega)
    · exact nS_len (by omega) (by omega)
    · exact hm _ (flatR_small h3) w hw
  | beat n ls =>
    obtain ⟨h1, _, _, h3⟩ := h
    simp only [wordsL, List.mem_cons] at hw
    rcases hw with rfl | rfl | hw
    · decide +kernel
    · exact nS_len (by omega) (by omega)
    · obtain ⟨z, q, rfl⟩ := List.mem_map.mp hw
      have := h3 z q
      exact nS_len (by omega) (by omega)
end Cu

namespace Cu
open PySem PySem.Spec PyProof.Rows L2
open TL (tl)
/-! a letter's words may stand, and write it again -/
theorem badW_some {ws : List Str} {p : Nat} (hp : p < ws.length) (h : ∀ i, i < p → rightW ws i = true) (hn : rightW ws p = false) : badW ws = some p := by
  have e : (List.range ws.length).find? (fun i => !rightW ws i) = some p := by
    rw [List.find?_range_eq_some]
    refine ⟨by rw [hn]; rfl, List.mem_range.mpr hp, fun j hj => by rw [h j hj]; rfl⟩
  unfold badW
  rw [e]
theorem find_none {ws : List Str} (h : ∀ i, i < ws.length → rightW ws i = true) : (List.range ws.length).find? (fun i => !rightW ws i) = none := by
  rw [List.find?_eq_none]
  intro i hi
  rw [h i (List.mem_range.mp hi)]
  simp
theorem badW_none {ws : List Str} (h : ∀ i, i < ws.length → rightW ws i = true) (hd : doneW ws = true) : badW ws = none := by
  unfold badW
  rw [find_none h]
  show (if doneW ws = true then none else some ws.length) = none
  rw [if_pos hd]
theorem badW_len {ws : List Str} (h : ∀ i, i < ws.length → rightW ws i = true) (hd : doneW ws = false) : badW ws = some ws.length := by
  unfold badW
  rw [find_none h]
  show (if doneW ws = true then none else some ws.length) = _
  rw [hd, if_neg Bool.false_ne_true]
theorem rightW_num {ws : List Str} {i : Nat} {z : Int} (hi : i ≠ 0) (hc : ¬(ws.getD 0 "" = "change" ∧ i = 3)) (hn : numW (ws.getD i "") = some z) :
    rightW ws i = (if ws.getD 0 "" = "change" ∧ 5 < i then false else if (ws.getD 0 "" = "change" ∧ i = 4) ∨ (ws.getD 0 "" = "part" ∧ 2 < i ∧ i % 2 = 1) then true else decide (0 ≤ z)) := by
  unfold rightW
  rw [if_neg hi, if_neg hc, hn]
theorem rightW_none {ws : List Str} {i : Nat} (hi : i ≠ 0) (hc : ¬(ws.getD 0 "" = "change" ∧ i = 3)) (hn : numW (ws.getD i "") = none) : rightW ws i = false := by
  unfold rightW
  rw [if_neg hi, if_neg hc, hn]
theorem part_ne : ¬ (("part" : Str) = "change") := by decide +kernel
theorem beat_ne : ¬ (("beat" : Str) = "change") := by decide +kernel
theorem beat_ne2 : ¬ (("beat" : Str) = "part") := by decide +kernel
theorem part_ne2 : ¬ (("part" : Str) = "beat") := by decide +kernel
theorem change_ne2 : ¬ (("change" : Str) = "beat") := by decide +kernel
theorem change_np : ¬ (("change" : Str) = "part") := by decide +kernel
theorem getD_of {ws : List Str} {i : Nat} {w : Str} (h : ws[i]? = some w) : ws.getD i "" = w := by simp [List.getD, h]
theorem words_right {l : Letter} (h : Small l) : ∀ i, i < (wordsL l).length → rightW (wordsL l) i = true := by
  cases l with
  | change n c a =>
    obtain ⟨h1, h2, h3, h4, h5⟩ := h
    have e0 : (wordsL (.change n c a)).getD 0 "" = "change" := rfl
    intro i hi
    have hi' : i < 6 := hi
    have cs : i = 0 ∨ i = 1 ∨ i = 2 ∨ i = 3 ∨ i = 4 ∨ i = 5 := by omega
    rcases cs with rfl | rfl | rfl | rfl | rfl | rfl
    · unfold rightW
      rw [if_pos rfl, e0]
      decide +kernel
    · rw [rightW_num (ws := wordsL (.change n c a)) (i := 1) (z := n) (by decide) (fun z => absurd z.2 (by decide)) (numW_nS (by omega) (by omega)), if_neg (fun z => absurd z.2 (by decide)), if_neg (by simp)]
      exact decide_eq_true (by omega)
    · rw [rightW_num (ws := wordsL (.change n c a)) (i := 2) (z := c.key) (by decide) (fun z => absurd z.2 (by decide)) (numW_nS (by omega) (by omega)), if_neg (fun z => absurd z.2 (by decide)), if_neg (by simp)]
      exact decide_eq_true (by omega)
    · unfold rightW
      rw [if_neg (by decide), if_pos ⟨e0, rfl⟩]
      show (wd c.set == "set" || wd c.set == "add") = true
      cases c.set <;> decide +kernel
    · rw [rightW_num (ws := wordsL (.change n c a)) (i := 4) (z := c.worth) (by decide) (fun z => absurd z.2 (by decide)) (numW_nS h3 h4), if_neg (fun z => absurd z.2 (by decide)), if_pos (.inl ⟨e0, rfl⟩)]
    · rw [rightW_num (ws := wordsL (.change n c a)) (i := 5) (z := a) (by decide) (fun z => absurd z.2 (by decide)) (numW_nS (by omega) (by omega)), if_neg (fun z => absurd z.2 (by decide)), if_neg (fun q => q.elim (fun q => absurd q.2 (by decide)) fun q => change_np (e0.symm.trans q.1))]
      exact decide_eq_true (by omega)
  | part n b rows =>
    obtain ⟨h1, h2, h3, h4, h5⟩ := h
    have e0 : (wordsL (.part n b rows)).getD 0 "" = "part" := rfl
    have nc : ¬ ((wordsL (.part n b rows)).getD 0 "" = "change") := part_ne
    intro i hi
    by_cases i0 : i = 0
    · subst i0
      unfold rightW
      rw [if_pos rfl, e0]
      decide +kernel
    by_cases i1 : i = 1
    · subst i1
      rw [rightW_num (ws := wordsL (.part n b rows)) (i := 1) (z := n) (by decide) (fun z => nc z.1) (numW_nS (by omega) (by omega)), if_neg (fun z => nc z.1), if_neg (by simp)]
      exact decide_eq_true (by omega)
    by_cases i2 : i = 2
    · subst i2
      rw [rightW_num (ws := wordsL (.part n b rows)) (i := 2) (z := b) (by decide) (fun z => nc z.1) (numW_nS (by omega) (by omega)), if_neg (fun z => nc z.1), if_neg (by simp)]
      exact decide_eq_true (by omega)
    obtain ⟨j, rfl⟩ : ∃ j, i = j + 3 := ⟨i - 3, by omega⟩
    have hj : j < (flatR rows).length := by
      simp only [wordsL, List.length_cons, List.length_map] at hi
      omega
    have ez : (flatR rows)[j]? = some (flatR rows)[j] := List.getElem?_eq_getElem hj
    generalize (flatR rows)[j] = z at ez
    have hz := flatR_small h5 z (List.mem_of_getElem? ez)
    have ew : (wordsL (.part n b rows)).getD (j + 3) "" = nS z := getD_of (by
      show ((flatR rows).map nS)[j]? = _
      rw [List.getElem?_map, ez]
      rfl)
    rw [rightW_num (z := z) i0 (fun q => nc q.1) (by rw [ew]; exact numW_nS hz.1 hz.2), if_neg (fun q => nc q.1)]
    by_cases ho : (j + 3) % 2 = 1
    · rw [if_pos (.inr ⟨e0, by omega, ho⟩)]
    · rw [if_neg (fun q => q.elim (fun q => nc q.1) fun q => ho q.2.2)]
      obtain ⟨m, rfl⟩ : ∃ m, j = 2 * m + 1 := ⟨j / 2, by omega⟩
      rw [(flatR_get rows m).2] at ez
      cases er : rows[m]? with
      | none => rw [er] at ez; cases ez
      | some r =>
        rw [er] at ez
        have ez' : (r.2 : Int) = z := Option.some.inj ez
        exact decide_eq_true (by omega)
  | beat n ls =>
    obtain ⟨h1, h2, h3, h4⟩ := h
    have e0 : (wordsL (.beat n ls)).getD 0 "" = "beat" := rfl
    have nc : ¬ ((wordsL (.beat n ls)).getD 0 "" = "change") := beat_ne
    have np : ¬ ((wordsL (.beat n ls)).getD 0 "" = "part") := beat_ne2
    intro i hi
    by_cases i0 : i = 0
    · subst i0
      unfold rightW
      rw [if_pos rfl, e0]
      decide +kernel
    obtain ⟨z, ez, hz⟩ : ∃ z : Nat, (wordsL (.beat n ls)).getD i "" = nS z ∧ z < 1000000000 := by
      by_cases i1 : i = 1
      · subst i1
        exact ⟨n, rfl, h1⟩
      obtain ⟨j, rfl⟩ : ∃ j, i = j + 2 := ⟨i - 2, by omega⟩
      have hj : j < ls.length := by
        simp only [wordsL, List.length_cons, List.length_map] at hi
        omega
      refine ⟨ls[j], getD_of ?_, h4 _ (List.getElem_mem hj)⟩
      show (ls.map fun k : Nat => nS k)[j]? = _
      rw [List.getElem?_map, List.getElem?_eq_getElem hj]
      rfl
    rw [rightW_num (z := z) i0 (fun q => nc q.1) (by rw [ez]; exact numW_nS (by omega) (by omega)), if_neg (fun q => nc q.1), if_neg (fun q => q.elim (fun q => nc q.1) fun q => np q.1)]
    exact decide_eq_true (by omega)
theorem words_done {l : Letter} (h : Small l) : doneW (wordsL l) = true := by
  cases l with
  | change n c a => unfold doneW; rw [if_pos (show (wordsL (.change n c a)).getD 0 "" = "change" from rfl)]; rfl
  | part n b rows =>
    obtain ⟨_, _, h3, h4, _⟩ := h
    have hl : (wordsL (.part n b rows)).length = 2 * rows.length + 3 := by
      simp only [wordsL, List.length_cons, List.length_map, flatR_len]
    unfold doneW
    rw [if_neg (show ¬ ((wordsL (.part n b rows)).getD 0 "" = "change") from part_ne), if_pos (show (wordsL (.part n b rows)).getD 0 "" = "part" from rfl), hl, decide_eq_true (by omega), decide_eq_true (by omega)]
    rfl
  | beat n ls =>
    obtain ⟨_, h2, h3, _⟩ := h
    have hl : (wordsL (.beat n ls)).length = ls.length + 2 := by
      simp only [wordsL, List.length_cons, List.length_map]
    unfold doneW
    rw [if_neg (show ¬ ((wordsL (.beat n ls)).getD 0 "" = "change") from beat_ne), if_neg (show ¬ ((wordsL (.beat n ls)).getD 0 "" = "part") from beat_ne2), hl]
    exact decide_eq_true (by omega)
theorem words_good {l : Letter} (h : Small l) : badW (wordsL l) = none := badW_none (words_right h) (words_done h)
theorem numD_nS {i : Int} (h1 : -1000000000 < i) (h2 : i < 1000000000) : numD (nS i) = i := by
  unfold numD
  rw [numW_nS h1 h2]
  rfl
theorem words_letter {l : Letter} (h : Small l) : letD (wordsL l) = l.enc := by
  cases l with
  | change n c a =>
    obtain ⟨h1, h2, h3, h4, h5⟩ := h
    unfold letD
    rw [if_pos (show (wordsL (.change n c a)).getD 0 "" = "change" from rfl)]
    show PyData.tuple [.str "change", .int (numD (nS n)), .int (numD (nS c.key)), .str (wd c.set), .int (numD (nS c.worth)), .int (numD (nS a))] = _
    rw [numD_nS (by omega) (by omega), numD_nS (by omega) (by omega), numD_nS h3 h4, numD_nS (by omega) (by omega)]
    rfl
  | part n b rows =>
    obtain ⟨h1, h2, h3, h4, h5⟩ := h
    unfold letD
    rw [if_neg (show ¬ ((wordsL (.part n b rows)).getD 0 "" = "change") from part_ne), if_neg (show ¬ ((wordsL (.part n b rows)).getD 0 "" = "beat") from part_ne2)]
    show PyData.tuple [.str "part", .int (numD (nS n)), .int (numD (nS b)), .tuple ((pairs (((flatR rows).map nS).map numD)).map fun r => .tuple [.int r.1, .int r.2])] = _
    have e : ((flatR rows).map nS).map numD = flatR rows := by
      rw [List.map_map]
      conv => rhs; rw [← List.map_id (flatR rows)]
      refine List.map_congr_left fun z hz => ?_
      have := flatR_small h5 z hz
      exact numD_nS this.1 this.2
    rw [numD_nS (by omega) (by omega), numD_nS (by omega) (by omega), e, pairs_flat, List.map_map]
    rfl
  | beat n ls =>
    obtain ⟨h1, h2, h3, h4⟩ := h
    unfold letD
    rw [if_neg (show ¬ ((wordsL (.beat n ls)).getD 0 "" = "change") from beat_ne), if_pos (show (wordsL (.beat n ls)).getD 0 "" = "beat" from rfl)]
    show PyData.tuple [.str "beat", .int (numD (nS n)), .tuple ((ls.map fun k : Nat => nS k).map fun w => .int (numD w))] = _
    have e : (ls.map fun k : Nat => nS k).map (fun w => PyData.int (numD w)) = ls.map fun k : Nat => PyData.int k := by
      rw [List.map_map]
      refine List.map_congr_left fun z hz => ?_
      have := h4 z hz
      show PyData.int (numD (nS z)) = _
      rw [numD_nS (by omega) (by omega)]
    rw [numD_nS (by omega) (by omega), e]
    rfl
/-- another word at a place: there it ends -/
theorem words_x {ws : List Str} {p : Nat} (h : ∀ i, i < ws.length → rightW ws i = true) (h0 : p ≠ 0) (hp : p < ws.length) : badW (ws.take p ++ [("x" : Str)] ++ ws.drop (p + 1)) = some p := by
  have hl : (ws.take p ++ [("x" : Str)] ++ ws.drop (p + 1)).length = ws.length := by
    rw [List.length_append, List.length_append, List.length_take, List.length_drop, List.length_singleton]
    omega
  have lt : (ws.take p).length = p := by rw [List.length_take]; omega
  have g1 : ∀ i, i < p → (ws.take p ++ [("x" : Str)] ++ ws.drop (p + 1)).getD i "" = ws.getD i "" := fun i hi => by
    have : (ws.take p ++ [("x" : Str)] ++ ws.drop (p + 1))[i]? = ws[i]? := by
      rw [List.append_assoc, List.getElem?_append_left (by omega), List.getElem?_take_of_lt hi]
    simp only [List.getD, this]
  have g2 : (ws.take p ++ [("x" : Str)] ++ ws.drop (p + 1)).getD p "" = "x" := getD_of (by
    rw [List.append_assoc, List.getElem?_append_right (by omega), lt, Nat.sub_self]
    rfl)
  refine badW_some (by omega) (fun i hi => ?_) ?_
  · have := h i (by omega)
    unfold rightW at this ⊢
    rw [g1 0 (by omega), g1 i hi]
    by_cases i3 : i = 3
    · subst i3
      rw [g1 3 hi]
      exact this
    · simp only [i3, and_false, if_false] at this ⊢
      exact this
  · have nx : numW "x" = none := by decide +kernel
    by_cases c3 : (ws.take p ++ [("x" : Str)] ++ ws.drop (p + 1)).getD 0 "" = "change" ∧ p = 3
    · unfold rightW
      rw [if_neg h0, if_pos c3, ← c3.2, g2]
      decide +kernel
    · exact rightW_none h0 c3 (by rw [g2]; exact nx)
end Cu

namespace Cu
open PySem PySem.Spec PyProof.Rows L2
/-! own exceptions: a class with an own __init__ (one field), what a def that raises promises -/
/-- CatchError.__init__ is ValueError's -/
structure CeR (K : PySem.W.Frag) (mg : Str → Option Value) (CE : Addr) : Prop where
  gm : mg "CatchError" = some (.ref CE)
  rd : PySem.W.readsIn K CE (.type "type") = true
  ga : PySem.W.specialIn K (.ref CE) "__getattribute__" = some (some (.builtin "type.__getattribute__"))
  at_ : PySem.W.findCls K (.ref CE) (.type "type") "__init__" = some (.val (.builtin "ValueError.__init__"))
section
variable {X : Cx} {e : Expr} {es : List Expr} {ta : TA} {p1 p2 pos : Pos} {CE : Addr}
theorem pe_ceinit {pl : Sem Bool} (T : CeR X.K X.mg CE) (ha : PA X (e :: es) ta) (hg : Gl X "CatchError" := by rfl)
    (hc : eval (.Call (.Attribute (.Name "CatchError" p1) "__init__" p2) (e :: es) [] pos) X.env = (do
      let ov ← eval (.Name "CatchError" p1) X.env
      standAt p2.atName
      let (f, first) ← holding [ov] (getMethod ov "__init__" pl)
      callWith pos f first (backTo pos (starEach (e :: es) X.env)) (backToKw pos (keywordEach [] X.env))) := by rfl)
    (he : starEach (e :: es) X.env = (false, eval e X.env) :: starEach es X.env := by rfl) (hpl : (backTo pos (starEach es X.env)).any (·.1) = false := by rfl) :
    PE X (.Call (.Attribute (.Name "CatchError" p1) "__init__" p2) (e :: es) [] pos) (tVeI X.K ta) := by
  refine ⟨fun pins s σ H Q I h => ?_⟩
  refine PySem.W.methodCall_KW (ld_glob I hg T.gm ?_) hc
  refine PySem.W.method_cls I.kIn T.ga (PySem.W.cls_value I.kIn T.rd T.at_ (by decide +kernel) ?_)
  show wpAny _ _ (callWith pos (Value.builtin "ValueError.__init__") [] (backTo pos (starEach (e :: es) X.env)) []) _ _ _
  refine PyProof.Rows.callWith_method1 (thn (ha.run pos pins _ σ H _ (I.tok _) h) fun us s1 ⟨vs, H1, I1, r1, a, C, ws, ev, hl, T, ea, q⟩ => ?_) he hpl
  subst ev
  cases r1 with
  | @cons _ u0 _ ur ra rw' =>
    obtain rfl : u0 = Value.ref a := ra
    have hlen : ur.length ≤ sizeLine := by
      rw [← Paired.length rw', sizeLine_eq]
      omega
    exact oinit_ok T I1 ea hlen fun s' J => ⟨.non, H1, J, rfl, q⟩
end
/-- a class over CatchError with an own __init__ and one field f -/
structure Xc (K : PySem.W.Frag) (C : Addr) (f : Str) : Prop where
  ox : OexC K C
  xf : XfC K C
  no : PySem.W.findIn K (.ref C) f = some none
/-- its text -/
structure Xd (K : PySem.W.Frag) (mg : Str → Option Value) (x : Str) (C : Addr) (qual : Str) (st : Stmt) : Prop where
  ex : ∃ f fd, Fun K "__init__" qual st f fd ∧ PySem.W.findIn K (.ref C) "__init__" = some (some (.ref f)) ∧ PySem.W.typeIn K (.ref f) = some (.type "function")
  gC : mg x = some (.ref C)
section
variable (P : Program) (w : World) (K : PySem.W.Frag) (mg : Str → Option Value) (base : Heap)
structure Xf (j : Nat) (x : Str) (C : Addr) (ps : List Str) (sp : Sp) : Prop where
  ex : ∃ f fd, FnOk P w K mg base CX0 j f fd ps sp ∧ PySem.W.findIn K (.ref C) "__init__" = some (some (.ref f)) ∧ PySem.W.typeIn K (.ref f) = some (.type "function") ∧ Binds K fd ps []
  gC : mg x = some (.ref C)
/-- a def that may raise -/
structure Gx (j : Nat) (x : Str) (ps : List Str) (sp : Sp) : Prop where
  ex : ∃ f fd, FnOk P w K mg base (L2.CX P w) j f fd ps sp ∧ mg x = some (.ref f) ∧ PySem.W.keepIn K (.ref f) = true ∧ Binds K fd ps []
end
section
variable {P : Program} {w : World} {K : PySem.W.Frag} {mg : Str → Option Value} {base : Heap} {x m qual : Str} {C : Addr} {st : Stmt} {N ps : List Str} {k : Nat} {sp : Sp}
theorem Xd.ok (F : Xd K mg x C qual st) (S : FnScope N ps (defScope st)) (b : Bnd "__init__" qual st ps) (len : ∀ vs H Q E, sp vs H Q E → vs.length = ps.length)
    (hbody : ∀ (qual : Str) (f : Addr) (cdv : Value) (A : Around) (outer : List Env) (s : Shared) (H : Hp) (vs : List V) (Q : VK) (E : XK), Room k (A.deeper (envOfC qual (defScope st) s.heap.objs.size f cdv)) → sp vs H Q E →
      ∃ t, PSs (cxOf CX0 P w K mg base N qual (defScope st) f cdv A outer s H E).nox (defBody st) t ∧ t { nx := fun _ H' => Q .non H', rt := Q } (start N vs) H) : Xf P w K mg base (k + 1) x C ps sp := by
  obtain ⟨⟨f, fd, F, hm, ht⟩, hx⟩ := F
  exact ⟨⟨f, fd, F.ok S len fun cdv A outer s H vs Q E hr h => hbody qual f cdv A outer s H vs Q E hr h, hm, ht, F.binds b⟩, hx⟩
theorem Fd.okX (F : Fd K mg x st) (S : FnScope N ps (defScope st)) (b : Bnd x x st ps) (len : ∀ vs H Q E, sp vs H Q E → vs.length = ps.length)
    (hbody : ∀ (qual : Str) (f : Addr) (cdv : Value) (A : Around) (outer : List Env) (s : Shared) (H : Hp) (vs : List V) (Q : VK) (E : XK), Room k (A.deeper (envOfC qual (defScope st) s.heap.objs.size f cdv)) → sp vs H Q E →
      ∃ t, PSs (cxOf (L2.CX P w) P w K mg base N qual (defScope st) f cdv A outer s H E) (defBody st) t ∧ t { nx := fun _ H' => Q .non H', rt := Q } (start N vs) H) : Gx P w K mg base (k + 1) x ps sp := by
  obtain ⟨f, fd, F, hm⟩ := F.ex
  exact ⟨f, fd, F.okX S len fun cdv A outer s H vs Q E hr h => hbody x f cdv A outer s H vs Q E hr h, hm, F.kp, F.binds b⟩
end
section
variable {X : Cx} {j k : Nat} {x m : Str} {C : Addr} {ps : List Str} {sp : Sp} {p pos apos : Pos} {e o : Expr} {es : List Expr} {t : TA} {to : TE}
/-- x(..), nothing raised -/
theorem pcx (g : Gx X.prog X.w X.K X.mg X.base j x ps sp) (hr : Room k X.A) (ha : PA X (e :: es) t) (hg : Gl X x := by rfl) (hj : j ≤ k := by decide) (hdb : (x == ("__debug__" : Str)) = false := by decide)
    (he : starEach (e :: es) X.env = (false, eval e X.env) :: starEach es X.env := by rfl) (hpl : (backTo pos (starEach es X.env)).any (·.1) = false := by rfl) :
    PE X (.Call (.Name x p) (e :: es) [] pos) (tCall sp [] E0 t) := by
  obtain ⟨f, fd, F, hm, hk, hb⟩ := g.ex
  exact pe_call F (hr.mono hj) hg hm hk hb .nil passL ha hdb he hpl
/-- x(..), which may raise: W takes it -/
theorem pcy {W : WX} (tk : Takes X W) (g : Gx X.prog X.w X.K X.mg X.base j x ps sp) (hr : Room k X.A) (ha : PA X (e :: es) t) (hg : Gl X x := by rfl) (hj : j ≤ k := by decide) (hdb : (x == ("__debug__" : Str)) = false := by decide)
    (he : starEach (e :: es) X.env = (false, eval e X.env) :: starEach es X.env := by rfl) (hpl : (backTo pos (starEach es X.env)).any (·.1) = false := by rfl) :
    PE X (.Call (.Name x p) (e :: es) [] pos) (tCallS sp (WE W) t) := by
  obtain ⟨f, fd, F, hm, hk, hb⟩ := g.ex
  exact pe_callS F (hr.mono hj) hg hm hk hb (passAt tk) ha hdb he hpl
/-- C(..), made to be raised -/
theorem px (T : OexC X.K C) (g : Xf X.prog X.w X.K X.mg X.base j x C ps sp) (hr : Room k X.A) (ha : PA X (e :: es) t) (hg : Gl X x := by rfl) (hj : j + 1 ≤ k := by decide) (hdb : (x == ("__debug__" : Str)) = false := by decide)
    (he : starEach (e :: es) X.env = (false, eval e X.env) :: starEach es X.env := by rfl) (hpl : (backTo pos (starEach es X.env)).any (·.1) = false := by rfl) :
    PMk X (.Call (.Name x p) (e :: es) [] pos) (tMkO C sp [] t) := by
  obtain ⟨f, fd, F, hm, ht, hb⟩ := g.ex
  exact pmk_oex T hm ht F (hr.mono hj) hb .nil pass0 hg g.gC ha hdb he hpl
end
/-- C.__init__(self, v): self.f = v -/
def spXi (C : Addr) (f : Str) : Sp := fun vs H Q _ => vs.length = 2 ∧ ∃ (a : Addr) (v : V), vs = [.ref a, v] ∧ H a = some (exo a C none) ∧ ∀ dx, H dx = none → dx ≠ a → Q .non (upd (upd H dx (exd dx [(f, v)])) a (exo a C (some dx)))
/-- what is behind making it -/
theorem xmade {C : Addr} {f : Str} {v : V} {H : Hp} {Q : XK} (h : ∀ d, H d = none → Q (.ref C) (some d) (upd H d (.xd [(f, v)]))) (a : Addr) (ha : H a = none) :
    spXi C f (.ref a :: ([v] ++ [])) (upd H a (exo a C none)) (fun u H2 => u = .non ∧ ∃ (d : Addr) (fs : List (Str × V)), H2 a = some (exo a C (some d)) ∧ H2 d = some (exd d fs) ∧ H d = none ∧ Q (.ref C) (some d) (upd (del H2 a) d (.xd fs))) (fun _ _ _ => False) := by
  refine ⟨rfl, a, v, rfl, upd_same, fun dx hdx hne => ⟨rfl, dx, [(f, v)], upd_same, ?_, ?_, ?_⟩⟩
  · rw [upd_ne hne]
    exact upd_same
  · rw [upd_ne hne] at hdx
    exact hdx
  · have hdx' : H dx = none := by rw [upd_ne hne] at hdx; exact hdx
    have e : upd (del (upd (upd (upd H a (exo a C none)) dx (exd dx [(f, v)])) a (exo a C (some dx))) a) dx (.xd [(f, v)]) = upd H dx (.xd [(f, v)]) := by
      funext b
      by_cases hb : b = dx
      · subst hb
        rw [upd_same, upd_same]
      · rw [upd_ne hb, upd_ne hb]
        by_cases hba : b = a
        · subst hba
          rw [del_same, ha]
        · rw [del_ne hba, upd_ne hba, upd_ne hb, upd_ne hba]
    rw [e]
    exact h dx hdx'
/-- such a class in an except clause of its own -/
theorem exm_of {K : PySem.W.Frag} {C : Addr} (T : Xc K C "place") (h : PySem.W.subIn K (.ref C) (.ref C) = some true) : PySem.W.exmOne K (.ref C) (.ref C) = some true :=
  PySem.W.exm_ref T.ox.exC T.xf.hdC T.ox.tyC h
end Cu

namespace Cu
open PySem PySem.Spec PyProof.Rows L2
open TL (tl)
/-- str(x), x an int or a str -/
def optN : Option Int → V
  | none => .non
  | some n => .int n
theorem tl_to1 (z : Str) : tl (cutS z none (some 1)) = (tl z).take 1 := by
  unfold cutS
  rw [HT.sIx_none, show (some (1 : Int)) = some ((1 : Nat) : Int) from rfl, HT.sIx_nat, List.drop_zero, Nat.sub_zero]
  show (z.cps.toList).take (min 1 z.length) = (z.cps.toList).take 1
  have e : z.cps.toList.length = z.length := Array.length_toList
  rcases Nat.le_total 1 z.length with h | h
  · rw [Nat.min_eq_left h]
  · rw [Nat.min_eq_right h, ← e, List.take_length, List.take_of_length_le (by omega)]
theorem tl_from1 (z : Str) : tl (cutS z (some 1) none) = (tl z).tail := by
  unfold cutS
  rw [HT.sIx_none, show (some (1 : Int)) = some ((1 : Nat) : Int) from rfl, HT.sIx_nat]
  have e : z.cps.toList.length = z.length := Array.length_toList
  show ((z.cps.toList).drop (min 1 z.length)).take (z.length - min 1 z.length) = (z.cps.toList).tail
  rw [List.take_of_length_le (by rw [List.length_drop]; omega)]
  cases h : z.cps.toList with
  | nil => rw [h] at e; rw [← e]; rfl
  | cons c r =>
    rw [h, List.length_cons] at e
    rw [Nat.min_eq_left (by omega)]
    rfl
theorem to1_minus (z : Str) : (cutS z none (some 1) = "-") ↔ (tl z).head? = some 45 := by
  have e := tl_to1 z
  constructor
  · intro h
    rw [h] at e
    have e2 : ([45] : List Nat) = (tl z).take 1 := e
    cases q : tl z with
    | nil => rw [q] at e2; cases e2
    | cons c r =>
      rw [q] at e2
      have : 45 = c := (List.cons.inj e2).1
      rw [← this]
      rfl
  · intro h
    refine TL.ext_tl ?_
    rw [e]
    cases q : tl z with
    | nil => rw [q] at h; cases h
    | cons c r =>
      rw [q] at h
      have : c = 45 := Option.some.inj h
      rw [this]
      rfl
end Cu

namespace Cu
open PySem PySem.Spec PyProof.Rows L2
open TL (tl)
theorem call_str_any {X : Cx} : CallR X (.type "str") (fun xs H Q => (∃ i, xs = [.int i] ∧ i.natAbs.log2 < 1920 ∧ Q (.str (nS i)) H) ∨ ∃ a, xs = [.str a] ∧ Q (.str a) H) := by
  intro pins s σ H xs us Q I r h
  rcases h with ⟨i, rfl, hz, q⟩ | ⟨a, rfl, q⟩
  · exact call_str_int pins s σ H _ us Q I r ⟨i, rfl, hz, q⟩
  · cases r with
    | cons r1 r2 =>
      cases r2
      obtain ⟨t, rfl⟩ := r1
      exact PySem.P.str_of_str ⟨.str a, H, I, ⟨t, rfl⟩, q⟩
abbrev s_number_of : Stmt := (top 14)
theorem sc_number_of : FnScope ["word", "figures", "sign"] ["word"] (defScope s_number_of) := ⟨rfl, rfl, rfl, by decide +kernel, rfl, by decide +kernel, by decide +kernel⟩

def spNum : Sp := fun vs H Q _ => vs.length = 1 ∧ ∃ x : Str, vs = [.str x] ∧ x.length ≤ 1000000 ∧ PyData.strOk x = true ∧ ∀ H', Grow H H' → Q (optN (numW x)) H'
section
variable {P : Program} {w : World} {K : PySem.W.Frag} {mg : Str → Option Value} {base : Heap} {tF tM : Tok}
theorem ok_number_of (F : Fd K mg "number_of" s_number_of) (Bm : Blt mg) (km_MOST_FIGURES : mg "MOST_FIGURES" = some (.int 9 tM)) (km_FIGURES : mg "FIGURES" = some (.str "0123456789" tF)) : Gf P w K mg base 1 "number_of" ["word"] spNum := by
  refine F.ok sc_number_of (fun _ _ _ _ _ _ us hl => match us, hl with | [_], _ => rfl) len_of fun qual f cdv A0 outer s H vs Q E hr h => ?_
  obtain ⟨_, x, rfl, hx, hok, k⟩ := h
  refine ⟨_, (pss_cons (ps_mid (ps_set (i := 1) sc_number_of.nd rfl (Or.inl rfl) (pe_ifExp (pt_cmpR op_eq (pe_slice sl_str (pv 0) po_none (po_some pe_int)) pe_str (nomark _)) (pe_slice sl_str (pv 0) (po_some pe_int) po_none) (pv 0))))
      (pss_cons (ps_if (PW.pt (pw_or (pt_not (pt_chain op_le op_le pe_int (pe_callB call_len_str rfl Bm.len (by decide +kernel) (pa_cons (pv 1) pa_nil)) (pe_glob (v := .int 9) rfl km_MOST_FIGURES ⟨_, rfl⟩))) (pw_or1 (pt_cmpR (op_neD hr.units) (pe_lc (own := [("sign", 2)]) (g := (gName 2)) rfl sc_number_of.nd (pi_str (pv 1)) (blkOk_by (N := ["word", "figures", "sign"]) (sc := defScope s_number_of) (by decide +kernel)) (fun _ _ _ _ _ => (pg_name (i := 2) sc_number_of.nd rfl (Or.inl rfl))) (fun _ _ _ _ _ => (pts_one (pt_cmpR op_notIn_sign (pv 2) (pe_glob (v := .str "0123456789") rfl km_FIGURES ⟨_, rfl⟩) (by rfl)))) (fun _ _ _ _ _ => (pv 2))) (pe_lst pa_nil) (nomark _)))))
        (pss_one (ps_ret pe_non))
        pss_nil)
      (pss_cons (ps_if (PW.pt (pw_and (pt_cmpR op_eq (pe_ix ix_str (pv 1) pe_int (fun _ _ => rfl)) pe_str (nomark _)) (pw_and1 (pt_cmpR op_ne (pv 0) pe_str (nomark _)))))
        (pss_one (ps_ret pe_non))
        pss_nil)
      (pss_one (ps_ret (pe_callTy call_int_str rfl Bm.int (by decide +kernel) (pa_cons (pv 0) pa_nil))))))), ?_⟩
  have hz : x.length ≤ sizeLine := Nat.le_trans hx (by decide)
  -- figures = ..
  refine rd_mid (fun σ' H' => ∃ y : Str, σ' = [some (.str x), some (.str y), none] ∧ H = H' ∧ tl y = figs (tl x)) ?_ ?_
  · refine ⟨_, rfl, _, rfl, x, rfl, hz, rfl, _, rfl, ite2 (fun h0 => ?_) fun h0 => ?_⟩
    · have e : cutS x none (some 1) = "-" := V.str.inj (of_decide_eq_true h0)
      refine ⟨_, rfl, _, rfl, x, rfl, hz, cutS x (some 1) none, rfl, rfl, ?_⟩
      rw [tl_from1]
      exact (if_pos ((to1_minus x).mp e)).symm
    · have e : ¬ cutS x none (some 1) = "-" := fun z => h0 (decide_eq_true (congrArg V.str z))
      refine ⟨_, rfl, x, rfl, rfl, ?_⟩
      exact (if_neg fun z => e ((to1_minus x).mpr z)).symm
  rintro _ _ ⟨y, rfl, rfl, ey⟩
  have ly := TL.len_tl y
  have lx := TL.len_tl x
  have hy : (tl y).length ≤ (tl x).length := by
    rw [ey]
    unfold figs
    split
    · rw [List.length_tail]; omega
    · exact Nat.le_refl _
  have hyok : ∀ c ∈ tl y, c < 0x110000 := fun c hc => by
    have hc' : c ∈ tl x := by
      rw [ey] at hc
      unfold figs at hc
      split at hc
      · exact List.mem_of_mem_tail hc
      · exact hc
    have := Array.all_eq_true_iff_forall_mem.mp hok c (by simpa [tl] using hc')
    simpa using this
  have hzy : y.length ≤ sizeLine := by omega
  -- the letters that are no figures
  have key : ∀ (H1 : Hp) (D : Addr) (p : Addr), H1 D = some (.lst (((tl y).filter fun c => !decide (c ∈ tl "0123456789")).map fun c => V.str ⟨#[c]⟩)) → H1 p = some (.lst []) →
      ∃ d e, Dp K H1 (.ref D) d ∧ Dp K H1 (.ref p) e ∧ SeqAt.shaped d = true ∧ SeqAt.shaped e = true ∧ (!PyData.eqv d e) = !digs (tl y) := by
    intro H1 D p hD hp
    have rl : ∀ cs : List Nat, RpL K H1 (cs.map fun c => PyData.str ⟨#[c]⟩) (cs.map fun c => V.str ⟨#[c]⟩) := fun cs => by
      induction cs with
      | nil => exact .nil
      | cons c cs ih => exact .cons .str ih
    refine ⟨.list (((tl y).filter fun c => !decide (c ∈ tl "0123456789")).map fun c => PyData.str ⟨#[c]⟩), .list [], .lst (SqL.of hD) (RpL.dp (rl _)), Dp.nil hp, (Gd.list (n := 0) fun d hd => ?_).shaped, (Gd.nil (n := 0)).shaped, ?_⟩
    · obtain ⟨c, hc, rfl⟩ := List.mem_map.mp hd
      have := hyok c ((List.mem_filter.mp hc).1)
      exact Gd.str (by unfold PyData.strOk; simpa using this)
    · rw [eqv_nil]
      congr 1
      have dg : tl "0123456789" = [48, 49, 50, 51, 52, 53, 54, 55, 56, 57] := by decide +kernel
      rw [List.isEmpty_map, dg]
      cases hd : digs (tl y) with
      | true =>
        have := digs_all hd
        rw [List.isEmpty_iff, List.filter_eq_nil_iff]
        intro c hc
        have h1 := this c hc
        have : c ∈ [48, 49, 50, 51, 52, 53, 54, 55, 56, 57] := by simp; omega
        simp [this]
      | false =>
        refine Bool.eq_false_iff.mpr fun z => ?_
        rw [List.isEmpty_iff, List.filter_eq_nil_iff] at z
        refine absurd (digs_of fun c hc => ?_) (Bool.eq_false_iff.mp hd)
        have h1 := z c hc
        have : c ∈ [48, 49, 50, 51, 52, 53, 54, 55, 56, 57] := by
          by_cases q : c ∈ [48, 49, 50, 51, 52, 53, 54, 55, 56, 57]
          · exact q
          · exact absurd (by rw [decide_eq_false q]; rfl) h1
        simp only [List.mem_cons, List.not_mem_nil, or_false] at this
        omega
  have dof : ∀ b, figOk (tl x) = b → (decide (1 ≤ (tl y).length) && decide ((tl y).length ≤ 9) && digs (tl y)) = b := fun b e => by
    rw [ey]
    exact e
  -- behind the tests
  have rest : ∀ (H2 : Hp), Grow H H2 → figOk (tl x) = true → (fun (σ : L2.St) (H2 : Hp) => (tSeq (tIfS (tAnd (tTest (tOp rEq (tOp rIxS (tVar 1) (tC (V.int 0))) (tC (V.str "0")))) (tTest (tOp rNe (tVar 0) (tC (V.str "0"))))) (tRet (tC V.non)) tNext)
      (tRet (tCB (fun xs H Q => ∃ a n, xs = [V.str a] ∧ intText? a = some n ∧ a.length ≤ 640 ∧ Q (V.int n) H) (tCons (tVar 0) tNil)))) { nx := fun _ H' => Q V.non H', rt := Q } σ H2) [some (.str x), some (.str y), none] H2 := by
    intro H2 g2 hf
    have hf' := dof _ hf
    simp only [Bool.and_eq_true, decide_eq_true_eq] at hf'
    obtain ⟨⟨h1, h2⟩, h3⟩ := hf'
    obtain ⟨t1, t2⟩ := numW_int hf
    cases hh : tl y with
    | nil => rw [hh] at h1; simp at h1
    | cons c0 r0 =>
      have e0 : atI y.cps.toList 0 = some c0 := by
        show atI (tl y) 0 = some c0
        rw [hh]
        show ((ixN (r0.length + 1) ((0 : Nat) : Int)).bind fun j => (c0 :: r0)[j]?) = _
        rw [ixN_nat (by omega)]
        rfl
      have fin : nought (tl x) = false → Q (.int (valW (tl x))) H2 := fun hn => by
        have q := k H2 g2
        unfold numW numL' at q
        rw [if_pos hf, hn, if_neg Bool.false_ne_true] at q
        exact q
      have fin2 : nought (tl x) = true → Q .non H2 := fun hn => by
        have q := k H2 g2
        unfold numW numL' at q
        rw [if_pos hf, if_pos hn] at q
        exact q
      have c0x : (figs (tl x)).head? = some c0 := by rw [← ey, hh]; rfl
      refine ⟨_, rfl, y, 0, c0, rfl, rfl, hzy, e0, rfl, _, rfl, ite2 (fun a0 => ?_) fun a0 => ?_⟩
      · have ec : c0 = 48 := by
          have e : (⟨#[c0]⟩ : Str) = "0" := V.str.inj (of_decide_eq_true a0)
          have e2 := congrArg tl e
          exact (List.cons.inj (show [c0] = [48] from e2)).1
        refine ⟨_, rfl, rfl, _, rfl, ite2 (fun b0 => ?_) fun b0 => ?_⟩
        · refine fin2 ?_
          unfold nought
          have hne : tl x ≠ [48] := fun z => by
            have : x = "0" := TL.ext_tl z
            subst this
            exact absurd b0 (by decide +kernel)
          rw [c0x, ec, decide_eq_true rfl, decide_eq_true hne]
          rfl
        · refine ⟨_, rfl, x, _, rfl, t1, t2, fin ?_⟩
          unfold nought
          have hne : ¬ tl x ≠ [48] := fun z => b0 (by
            rw [decide_eq_false fun q => z (by rw [V.str.inj q]; decide +kernel)]
            rfl)
          rw [decide_eq_false hne, Bool.and_false]
      · refine ⟨_, rfl, x, _, rfl, t1, t2, fin ?_⟩
        unfold nought
        have hne : ¬ ((figs (tl x)).head? = some 48) := fun z => a0 (by
          rw [c0x] at z
          have : c0 = 48 := Option.some.inj z
          subst this
          decide +kernel)
        rw [decide_eq_false hne, Bool.false_and]
  have hnone : figOk (tl x) = false → ∀ H2, Grow H H2 → Q .non H2 := fun hf H2 g2 => by
    have q := k H2 g2
    unfold numW numL' at q
    rw [hf, if_neg Bool.false_ne_true] at q
    exact q
  have el : ((y.length : Nat) : Int) = ((tl y).length : Nat) := by rw [ly]
  refine ⟨_, rfl, y, rfl, hzy, _, _, rfl, rfl, _, rfl, ite2 (fun c1 => ?_) fun c1 => ?_⟩
  · refine ⟨_, _, rfl, rfl, _, rfl, ite2 (fun c2 => ?_) fun c2 => ?_⟩
    · refine iteP rfl (hnone ?_ H (Tr.refl H _))
      rw [← dof _ rfl]
      have h9 : ¬ ((tl y).length ≤ 9) := by
        rw [Bool.not_eq_true', decide_eq_false_iff_not] at c2
        omega
      rw [decide_eq_false h9, Bool.and_false, Bool.false_and]
    · have h1 : 1 ≤ (tl y).length := by
        have := of_decide_eq_true c1
        omega
      have h9 : (tl y).length ≤ 9 := by
        rw [Bool.not_eq_true', decide_eq_false_iff_not] at c2
        omega
      have dig : figOk (tl x) = digs (tl y) := by rw [← dof _ rfl, decide_eq_true h1, decide_eq_true h9]; rfl
      refine ⟨_, rfl, y, rfl, fun D hD => ?_⟩
      have u0 : Grow H (upd H D (.lst [])) := (Tr.refl H []).old hD
      refine lc_it (walk_str (z := y)) (fun i H2 => H2 = upd H D (.lst ((((tl y).take i).filter fun c => !decide (c ∈ tl "0123456789")).map fun c => V.str ⟨#[c]⟩))) rfl (fun _ _ _ _ => trivial) ?_ ?_
      · rintro i v H2 H3 hi rfl ⟨rfl, c, ec, rfl⟩
        have ec' : (tl y)[i]? = some c := by rw [← ec]; simp [tl]
        refine ⟨rfl, _, rfl, c, "0123456789", rfl, rfl, _, rfl, ?_⟩
        rw [take_snoc ec', List.filter_append, List.map_append]
        refine ite2 (fun hc => ?_) fun hc => ?_
        · refine ⟨_, rfl, _, upd_same, ?_, ?_⟩
          · rw [List.length_map]
            exact small1000 (Nat.le_trans (List.length_filter_le _ _) (by rw [List.length_take]; omega))
          · rw [upd_upd, List.filter_cons_of_pos (p := fun c => !decide (c ∈ tl "0123456789")) hc]
            rfl
        · rw [List.filter_cons_of_neg (p := fun c => !decide (c ∈ tl "0123456789")) hc]
          simp
      · rintro _ rfl
        rw [List.take_of_length_le (by rw [show y.cps.size = y.length from rfl, ly]; exact Nat.le_refl _)]
        refine ⟨(by show 0 ≤ sizeLine; decide), fun p hp => ?_⟩
        have nD : D ≠ p := ne_of_none upd_same hp
        have g2 : Grow H (upd (upd H D (.lst ((((tl y)).filter fun c => !decide (c ∈ tl "0123456789")).map fun c => V.str ⟨#[c]⟩))) p (.lst [])) := ((Tr.refl H []).old hD).old hp
        obtain ⟨d, e, q1, q2, q3, q4, q5⟩ := key (upd (upd H D (.lst ((((tl y)).filter fun c => !decide (c ∈ tl "0123456789")).map fun c => V.str ⟨#[c]⟩))) p (.lst [])) D p (by rw [upd_ne nD]; exact upd_same) upd_same
        refine ⟨d, e, q1, q2, q3, q4, _, rfl, ?_⟩
        rw [q5]
        refine ite2 (fun hb => ?_) fun hb => ?_
        · refine hnone ?_ _ g2
          rw [dig]
          simpa using hb
        · exact rest _ g2 (by rw [dig]; simpa using hb)
  · refine ⟨_, rfl, iteP (by rfl) (hnone ?_ H (Tr.refl H _))⟩
    have h1 : ¬ 1 ≤ (tl y).length := fun z => c1 (decide_eq_true (by omega))
    rw [← dof _ rfl, decide_eq_false h1]
    rfl
end
end Cu

namespace Cu
open PySem PySem.Spec PyProof.Rows L2
open TL (tl)
theorem getD_at {ws : List Str} {i : Nat} (h : i < ws.length) : ws[i]? = some (ws.getD i "") := by simp [List.getD, List.getElem?_eq_getElem h]
theorem strs_at {ws : List Str} {i : Nat} (h : i < ws.length) : (ws.map V.str)[i]? = some (.str (ws.getD i "")) := by rw [List.getElem?_map, getD_at h]; rfl
theorem ixS {ws : List Str} {i : Nat} (h : i < ws.length) : atI (ws.map V.str) (i : Int) = some (.str (ws.getD i "")) := by
  unfold atI
  rw [ixN_nat (by rw [List.length_map]; exact h)]
  exact strs_at h
theorem beqS (u v : Str) : (u == v) = (v == u) := by
  by_cases h : u = v
  · rw [h]
  · rw [beq_eq_false_iff_ne.mpr h, beq_eq_false_iff_ne.mpr (Ne.symm h)]
theorem inV3 (w : Str) : inV (.str w) [.str "change", .str "part", .str "beat"] = kindOk w := by
  simp only [inV, eqV, kindOk, List.any_cons, List.any_nil, Bool.or_false, Bool.or_assoc]
  rw [beqS "change", beqS "part", beqS "beat"]
theorem inV2 (w : Str) : inV (.str w) [.str "set", .str "add"] = (w == "set" || w == "add") := by
  simp only [inV, eqV, List.any_cons, List.any_nil, Bool.or_false]
  rw [beqS "set", beqS "add"]
/-- words that may be read -/
def WdOk (w : Str) : Prop := w.length ≤ 1000000 ∧ PyData.strOk w = true
abbrev s_is_right : Stmt := (top 15)
theorem sc_is_right : FnScope ["words", "at", "number"] ["words", "at"] (defScope s_is_right) := ⟨rfl, rfl, rfl, by decide +kernel, rfl, by decide +kernel, by decide +kernel⟩

def spRight (K : PySem.W.Frag) : Sp := fun vs H Q _ => vs.length = 2 ∧ ∃ (a : Addr) (ws : List Str) (i : Nat), vs = [.ref a, .int i] ∧ FzL K H a (ws.map V.str) ∧ i < ws.length ∧ (∀ w ∈ ws, WdOk w) ∧ ∀ H', Grow H H' → Q (.bl (rightW ws i)) H'
section
variable {P : Program} {w : World} {K : PySem.W.Frag} {mg : Str → Option Value} {base : Heap}
theorem ok_is_right (F : Fd K mg "is_right" s_is_right) (Bm : Blt mg) (g_number_of : Gf P w K mg base 1 "number_of" ["word"] spNum) : Gf P w K mg base 2 "is_right" ["words", "at"] (spRight K) := by
  refine F.ok sc_is_right (fun _ _ _ _ _ _ us hl => match us, hl with | [_, _], _ => rfl) len_of fun qual f cdv A0 outer s H vs Q E hr h => ?_
  obtain ⟨_, a, ws, i, rfl, fa, hi, hok, k⟩ := h
  refine ⟨_, (pss_cons (ps_if (pt_cmpR op_eq (pv 1) pe_int (nomark _))
        (pss_one (ps_ret (pe_cmpR op_in_seq (pe_ix ix_list (pv 0) pe_int (fun _ _ => rfl)) (pe_tup (pa_cons pe_str (pa_cons pe_str (pa_cons pe_str pa_nil)))) (by rfl))))
        pss_nil)
      (pss_cons (ps_mid (ps_if (PW.pt (pw_and (pt_cmpR op_eq (pe_ix ix_list (pv 0) pe_int (fun _ _ => rfl)) pe_str (nomark _)) (pw_and1 (pt_cmpR op_eq (pv 1) pe_int (nomark _)))))
        (pss_one (ps_ret (pe_cmpR op_in_seq (pe_ix ix_list (pv 0) pe_int (fun _ _ => rfl)) (pe_tup (pa_cons pe_str (pa_cons pe_str pa_nil))) (by rfl))))
        pss_nil))
      (pss_cons (ps_set (i := 2) sc_is_right.nd rfl (Or.inl rfl) (pc g_number_of hr (pa_cons (pe_ix ix_list (pv 0) (pv 1) (fun _ _ => rfl)) pa_nil)))
      (pss_cons (ps_mid (ps_if (PW.pt (pw_or (pt_cmpR op_isN (pv 2) pe_non (nomark _)) (pw_or1 (PW.pt (pw_and (pt_cmpR op_eq (pe_ix ix_list (pv 0) pe_int (fun _ _ => rfl)) pe_str (nomark _)) (pw_and1 (pt_cmpR op_gt (pv 1) pe_int (nomark _))))))))
        (pss_one (ps_ret pe_bl))
        pss_nil))
      (pss_cons (ps_mid (ps_if (PW.pt (pw_or (PW.pt (pw_and (pt_cmpR op_eq (pe_ix ix_list (pv 0) pe_int (fun _ _ => rfl)) pe_str (nomark _)) (pw_and1 (pt_cmpR op_eq (pv 1) pe_int (nomark _))))) (pw_or1 (PW.pt (pw_and (pt_cmpR op_eq (pe_ix ix_list (pv 0) pe_int (fun _ _ => rfl)) pe_str (nomark _)) (pw_and (pt_cmpR op_gt (pv 1) pe_int (nomark _)) (pw_and1 (pt_cmpR op_eq (pe_op op_mod (pv 1) pe_int) pe_int (nomark _)))))))))
        (pss_one (ps_ret pe_bl))
        pss_nil))
      (pss_one (ps_ret (pe_cmpR op_ge (pv 2) pe_int (nomark _))))))))), ?_⟩
  have h0 : 0 < ws.length := by omega
  have g0 : ∀ {H'}, Grow H H' → SqL K H' a (ws.map V.str) := fun g => (fa.mono g.mono).sq
  refine ⟨_, rfl, rfl, _, rfl, ite2 (fun c0 => ?_) fun c0 => ?_⟩
  · have hi0 : i = 0 := by simpa using c0
    subst hi0
    refine ⟨_, rfl, a, _, 0, _, rfl, rfl, fa.sq, ixS h0, ⟨(by show 3 ≤ sizeLine; decide), fun t ht => ?_⟩⟩
    refine ⟨t, _, rfl, .inr (SqT.of upd_same), rfl, rfl, ?_⟩
    have q := k _ ((Tr.refl H []).old (o := .tup [.str "change", .str "part", .str "beat"]) ht)
    unfold rightW at q
    rw [if_pos rfl, ← inV3] at q
    exact q
  have hi0 : i ≠ 0 := fun z => c0 (by subst z; rfl)
  have eqS : ∀ {u v : Str}, decide (V.str u = V.str v) = true → u = v := fun h => V.str.inj (of_decide_eq_true h)
  have neS : ∀ {u v : Str}, ¬ decide (V.str u = V.str v) = true → ¬ u = v := fun h z => h (decide_eq_true (congrArg V.str z))
  have eqI : ∀ {u v : Int}, decide (V.int u = V.int v) = true → u = v := fun h => V.int.inj (of_decide_eq_true h)
  have neI : ∀ {u v : Int}, ¬ decide (V.int u = V.int v) = true → ¬ u = v := fun h z => h (decide_eq_true (congrArg V.int z))
  -- change, at 3
  refine rd_mid (fun σ' H' => σ' = [some (.ref a), some (.int i), none] ∧ H = H' ∧ ¬ (ws.getD 0 "" = "change" ∧ i = 3)) ?_ ?_
  · refine ⟨_, rfl, a, _, 0, _, rfl, rfl, fa.sq, ixS h0, rfl, _, rfl, ite2 (fun c1 => ?_) fun c1 => ?_⟩
    · refine ⟨_, rfl, rfl, _, rfl, ite2 (fun c2 => ?_) fun c2 => ?_⟩
      · have hi3 : i = 3 := by have := eqI c2; omega
        subst hi3
        refine ⟨_, rfl, a, _, 3, _, rfl, rfl, fa.sq, ixS hi, ⟨(by show 2 ≤ sizeLine; decide), fun t ht => ?_⟩⟩
        refine ⟨t, _, rfl, .inr (SqT.of upd_same), rfl, rfl, ?_⟩
        have q := k _ ((Tr.refl H []).old (o := .tup [.str "set", .str "add"]) ht)
        unfold rightW at q
        rw [if_neg hi0, if_pos ⟨eqS c1, rfl⟩, ← inV2] at q
        exact q
      · exact ⟨rfl, rfl, fun z => neI c2 (by omega)⟩
    · exact iteM (by decide) ⟨rfl, rfl, fun z => neS c1 z.1⟩
  rintro _ _ ⟨rfl, rfl, h3⟩
  -- number = ..
  refine ⟨_, rfl, _, rfl, a, _, (i : Int), _, rfl, rfl, fa.sq, ixS hi, rfl, ws.getD i "", rfl, (hok _ (List.mem_of_getElem? (getD_at hi))).1, (hok _ (List.mem_of_getElem? (getD_at hi))).2, fun H2 g2 => ?_⟩
  have f2 := g0 g2
  refine rd_mid (fun σ' H' => ∃ n : Int, σ' = [some (.ref a), some (.int i), some (.int n)] ∧ H2 = H' ∧ numW (ws.getD i "") = some n ∧ ¬ (ws.getD 0 "" = "change" ∧ 5 < i)) ?_ ?_
  · cases en : numW (ws.getD i "") with
    | none =>
      refine ⟨_, rfl, rfl, _, rfl, iteP rfl (iteP rfl ?_)⟩
      have q := k H2 g2
      rw [rightW_none hi0 h3 en] at q
      exact q
    | some n =>
      refine ⟨_, rfl, rfl, _, rfl, iteM (by simp [optN]) ?_⟩
      refine ⟨_, rfl, a, _, 0, _, rfl, rfl, f2, ixS h0, rfl, _, rfl, ite2 (fun c1 => ?_) fun c1 => ?_⟩
      · refine ⟨_, rfl, _, _, rfl, rfl, _, rfl, ite2 (fun c2 => ?_) fun c2 => ?_⟩
        · have h5 : 5 < i := by have := of_decide_eq_true c2; omega
          have q := k H2 g2
          rw [rightW_num hi0 h3 en, if_pos ⟨eqS c1, h5⟩] at q
          exact q
        · exact ⟨n, rfl, rfl, rfl, fun z => c2 (decide_eq_true (by omega))⟩
      · exact iteM (by decide) ⟨n, rfl, rfl, rfl, fun z => neS c1 z.1⟩
  rintro _ _ ⟨n, rfl, rfl, en, h5⟩
  have q0 := k H2 g2
  rw [rightW_num hi0 h3 en, if_neg h5] at q0
  refine rd_mid (fun σ' H' => σ' = [some (.ref a), some (.int i), some (.int n)] ∧ H2 = H' ∧ ¬ ((ws.getD 0 "" = "change" ∧ i = 4) ∨ (ws.getD 0 "" = "part" ∧ 2 < i ∧ i % 2 = 1))) ?_ ?_
  · have yes : ((ws.getD 0 "" = "change" ∧ i = 4) ∨ (ws.getD 0 "" = "part" ∧ 2 < i ∧ i % 2 = 1)) → Q (.bl true) H2 := fun z => by
      rw [if_pos z] at q0
      exact q0
    refine ⟨_, rfl, a, _, 0, _, rfl, rfl, f2, ixS h0, rfl, _, rfl, ite2 (fun c1 => ?_) fun c1 => ?_⟩
    · have e0 := eqS c1
      refine ⟨_, rfl, rfl, _, rfl, ite2 (fun c2 => ?_) fun c2 => ?_⟩
      · exact yes (.inl ⟨e0, by have := eqI c2; omega⟩)
      · refine ⟨_, rfl, a, _, 0, _, rfl, rfl, f2, ixS h0, rfl, _, rfl, iteM (fun z => change_np (e0.symm.trans (eqS z))) (iteM (by decide) ⟨rfl, rfl, ?_⟩)⟩
        rintro (z | z)
        · exact neI c2 (by omega)
        · exact change_np (e0.symm.trans z.1)
    · have n0 := neS c1
      refine iteM (by decide) ?_
      refine ⟨_, rfl, a, _, 0, _, rfl, rfl, f2, ixS h0, rfl, _, rfl, ite2 (fun c2 => ?_) fun c2 => ?_⟩
      · have e0 := eqS c2
        refine ⟨_, rfl, _, _, rfl, rfl, _, rfl, ite2 (fun c3 => ?_) fun c3 => ?_⟩
        · refine ⟨_, rfl, _, _, rfl, rfl, (by show (0 : Int) < 2; decide), rfl, _, rfl, ite2 (fun c4 => ?_) fun c4 => ?_⟩
          · refine yes (.inr ⟨e0, by have := of_decide_eq_true c3; omega, ?_⟩)
            have := eqI c4
            omega
          · refine ⟨rfl, rfl, ?_⟩
            rintro (z | z)
            · exact n0 z.1
            · exact neI c4 (by omega)
        · refine iteM (by decide) ⟨rfl, rfl, ?_⟩
          rintro (z | z)
          · exact n0 z.1
          · exact c3 (decide_eq_true (by omega))
      · refine iteM (by decide) ⟨rfl, rfl, ?_⟩
        rintro (z | z)
        · exact n0 z.1
        · exact neS c2 z.1
  rintro _ _ ⟨rfl, rfl, hs⟩
  rw [if_neg hs] at q0
  exact ⟨_, rfl, _, _, rfl, rfl, q0⟩
end
end Cu

namespace Cu
open PySem PySem.Spec PyProof.Rows L2
open TL (tl)
theorem pairs_get : ∀ {l : List Int} {i : Nat} {a b : Int}, l[2 * i]? = some a → l[2 * i + 1]? = some b → (pairs l)[i]? = some (a, b)
  | [], _, _, _, h, _ => by simp at h
  | [_], i, _, _, _, h => by
    rw [List.getElem?_eq_none (by simp)] at h
    cases h
  | x :: y :: r, 0, a, b, h1, h2 => by
    have e1 : x = a := by simpa using h1
    have e2 : y = b := by simpa using h2
    rw [e1, e2]
    rfl
  | x :: y :: r, i + 1, a, b, h1, h2 => by
    have e1 : 2 * (i + 1) = 2 * i + 1 + 1 := by omega
    rw [e1] at h1 h2
    simp only [List.getElem?_cons_succ] at h1 h2
    show (pairs r)[i]? = _
    exact pairs_get h1 h2
theorem pairs_len : ∀ (l : List Int), (pairs l).length = l.length / 2
  | [] => rfl
  | [_] => by simp [pairs]
  | _ :: _ :: r => by
    show (pairs r).length + 1 = (r.length + 2) / 2
    rw [pairs_len r]
    omega
theorem rg2 (lo r : Nat) (hl : lo ≤ 10) (h : r ≤ 1000) : RgC (lo : Int) ((lo + 2 * r : Nat) : Int) 2 r := by
  have e : Builtin.Range.rangeSize (lo : Int) ((lo + 2 * r : Nat) : Int) 2 = r := by
    unfold Builtin.Range.rangeSize
    simp only [show ((2 : Int) > 0) by decide, if_true]
    split <;> omega
  refine ⟨by decide, by decide, ?_, e⟩
  have f63 : ∀ z : Int, -100000 ≤ z → z ≤ 100000 → Builtin.Range.rangeFitsLong z = true := fun z h1 h2 => by
    unfold Builtin.Range.rangeFitsLong
    rw [Bool.and_eq_true]
    exact ⟨decide_eq_true (Int.le_trans (by decide) h1), decide_eq_true (Int.lt_of_le_of_lt h2 (by decide))⟩
  unfold Builtin.Range.small
  rw [e, f63 _ (by omega) (by omega), f63 _ (by omega) (by omega), f63 2 (by decide) (by decide), f63 r (by omega) (by omega), if_pos (show (2 : Int) > 0 by decide), f63 _ (by omega) (by omega), Bool.or_true]
  rfl
theorem right_num {ws : List Str} {i : Nat} (h : rightW ws i = true) (h0 : i ≠ 0) (hc : ¬(ws.getD 0 "" = "change" ∧ i = 3)) : numW (ws.getD i "") = some (numD (ws.getD i "")) := by
  cases e : numW (ws.getD i "") with
  | none =>
    rw [rightW_none h0 hc e] at h
    cases h
  | some n =>
    unfold numD
    rw [e]
    rfl
abbrev s_is_done : Stmt := (top 16)
theorem sc_is_done : FnScope ["words"] ["words"] (defScope s_is_done) := ⟨rfl, rfl, rfl, by decide +kernel, rfl, by decide +kernel, by decide +kernel⟩

def spDone (K : PySem.W.Frag) : Sp := fun vs H Q _ => vs.length = 1 ∧ ∃ (a : Addr) (ws : List Str), vs = [.ref a] ∧ FzL K H a (ws.map V.str) ∧ 0 < ws.length ∧ ∀ H', Grow H H' → Q (.bl (doneW ws)) H'
abbrev s_BadText_init : Stmt := (inClass (top 8) 0)
theorem sc_BadText_init : FnScope ["self", "place"] ["self", "place"] (defScope s_BadText_init) := ⟨rfl, rfl, rfl, by decide +kernel, rfl, by decide +kernel, by decide +kernel⟩

abbrev s_read : Stmt := (top 17)
theorem sc_read : FnScope ["text", "words", "at", "numbers", "rows", "word"] ["text"] (defScope s_read) := ⟨rfl, rfl, rfl, by decide +kernel, rfl, by decide +kernel, by decide +kernel⟩

def xdT (n : Nat) : HO := .xd [("place", .int n)]
/-- read(text): the letter, or BadText with a place -/
def spRead (K : PySem.W.Frag) (C : Addr) : Sp := fun vs H Q E => vs.length = 1 ∧ ∃ (x : Str) (ws : List Str), vs = [.str x] ∧ x.length ≤ 1000000 ∧ Txt.split x " " = ws ∧ 0 < ws.length ∧ ws.length ≤ 900 ∧ (∀ w ∈ ws, WdOk w) ∧
  (∀ n, badW ws = some n → ∀ d H', Grow H H' → H' d = some (xdT n) → E (.ref C) (some d) H') ∧
  (badW ws = none → ∀ v H', Grow H H' → Rp K H' (letD ws) v → Q v H')
section
variable {P : Program} {w : World} {K : PySem.W.Frag} {mg : Str → Option Value} {base : Heap} {C CE : Addr}
theorem ok_is_done (F : Fd K mg "is_done" s_is_done) (Bm : Blt mg) : Gf P w K mg base 1 "is_done" ["words"] (spDone K) := by
  refine F.ok sc_is_done (fun _ _ _ _ _ _ us hl => match us, hl with | [_], _ => rfl) len_of fun qual f cdv A0 outer s H vs Q E hr h => ?_
  obtain ⟨_, a, ws, rfl, fa, h0, k⟩ := h
  refine ⟨_, (pss_cons (ps_if (pt_cmpR op_eq (pe_ix ix_list (pv 0) pe_int (fun _ _ => rfl)) pe_str (nomark _))
        (pss_one (ps_ret (pe_cmpR op_eq (pe_callB call_len_seq rfl Bm.len (by decide +kernel) (pa_cons (pv 0) pa_nil)) pe_int (nomark _))))
        pss_nil)
      (pss_cons (ps_if (pt_cmpR op_eq (pe_ix ix_list (pv 0) pe_int (fun _ _ => rfl)) pe_str (nomark _))
        (pss_one (ps_ret (pe_and (pe_cmpR op_gt (pe_callB call_len_seq rfl Bm.len (by decide +kernel) (pa_cons (pv 0) pa_nil)) pe_int (nomark _)) (pe_one (pe_cmpR op_eq (pe_op op_mod (pe_callB call_len_seq rfl Bm.len (by decide +kernel) (pa_cons (pv 0) pa_nil)) pe_int) pe_int (nomark _))))))
        pss_nil)
      (pss_one (ps_ret (pe_cmpR op_gt (pe_callB call_len_seq rfl Bm.len (by decide +kernel) (pa_cons (pv 0) pa_nil)) pe_int (nomark _)))))), ?_⟩
  have q := k H (Tr.refl H _)
  have hl : (ws.map V.str).length = ws.length := List.length_map ..
  have dI : ∀ {u v : Nat}, decide (V.int (u : Int) = V.int (v : Int)) = decide (u = v) := fun {u v} => by
    refine decide_eq_decide.mpr ⟨fun z => by have := V.int.inj z; omega, fun z => by rw [z]⟩
  refine ⟨_, rfl, a, _, 0, _, rfl, rfl, fa.sq, ixS h0, rfl, _, rfl, ite2 (fun c1 => ?_) fun c1 => ?_⟩
  · have e0 : ws.getD 0 "" = "change" := V.str.inj (of_decide_eq_true c1)
    refine ⟨_, rfl, a, _, rfl, .inl fa.sq, rfl, ?_⟩
    unfold doneW at q
    rw [if_pos e0, ← dI, ← hl] at q
    exact q
  · have n0 : ¬ ws.getD 0 "" = "change" := fun z => c1 (decide_eq_true (congrArg V.str z))
    refine ⟨_, rfl, a, _, 0, _, rfl, rfl, fa.sq, ixS h0, rfl, _, rfl, ite2 (fun c2 => ?_) fun c2 => ?_⟩
    · have e0 : ws.getD 0 "" = "part" := V.str.inj (of_decide_eq_true c2)
      unfold doneW at q
      rw [if_neg n0, if_pos e0] at q
      refine ⟨_, rfl, a, _, rfl, .inl fa.sq, _, _, rfl, rfl, _, rfl, ite2 (fun c3 => ?_) fun c3 => ?_⟩
      · have h4 : 4 < ws.length := by have := of_decide_eq_true c3; rw [hl] at this; omega
        refine ⟨_, rfl, a, _, rfl, .inl fa.sq, _, _, rfl, rfl, (by show (0 : Int) < 2; decide), rfl, ?_⟩
        rw [decide_eq_true h4, Bool.true_and, ← dI] at q
        rw [hl]
        have e2 : (ws.length : Int) % 2 = ((ws.length % 2 : Nat) : Int) := by omega
        show Q (.bl (decide (V.int ((ws.length : Int) % 2) = V.int 1))) H
        rw [e2]
        exact q
      · have h4 : ¬ 4 < ws.length := fun z => c3 (decide_eq_true (by rw [hl]; omega))
        rw [decide_eq_false h4] at q
        exact q
    · have n1 : ¬ ws.getD 0 "" = "part" := fun z => c2 (decide_eq_true (congrArg V.str z))
      unfold doneW at q
      rw [if_neg n0, if_neg n1] at q
      refine ⟨_, rfl, a, _, rfl, .inl fa.sq, _, _, rfl, rfl, ?_⟩
      rw [hl]
      have e2 : decide ((2 : Int) < (ws.length : Int)) = decide (2 < ws.length) := decide_eq_decide.mpr (by omega)
      show Q (.bl (decide ((2 : Int) < (ws.length : Int)))) H
      rw [e2]
      exact q
theorem ok_BadText (F : Xd K mg "BadText" C "BadText.__init__" s_BadText_init) (CCatchError : CeR K mg CE) (XBadText : Xc K C "place") : Xf P w K mg base 1 "BadText" C ["self", "place"] (spXi C "place") := by
  refine F.ok sc_BadText_init (fun _ _ _ _ _ _ us hl => match us, hl with | [_, _], _ => rfl) len_of fun qual f cdv A0 outer s H vs Q E hr h => ?_
  obtain ⟨_, a, v, rfl, ha, k⟩ := h
  refine ⟨_, (pss_cons (ps_expr (pe_ceinit CCatchError (pa_cons (pv 0) (pa_cons pe_str pa_nil)))) (pss_one (ps_ost (pv 0) (pv 1)))), ?_⟩
  refine ⟨_, rfl, a, C, _, rfl, (by decide), XBadText.ox, ha, ?_⟩
  exact ⟨_, rfl, _, rfl, a, C, rfl, XBadText.ox, XBadText.no, .inl ⟨ha, k⟩⟩
theorem ok_read (F : Fd K mg "read" s_read) (Bm : Blt mg) (g_is_right : Gf P w K mg base 2 "is_right" ["words", "at"] (spRight K)) (g_is_done : Gf P w K mg base 1 "is_done" ["words"] (spDone K))
    (x_BadText : Xf P w K mg base 1 "BadText" C ["self", "place"] (spXi C "place")) (XBadText : Xc K C "place") : Gx P w K mg base 3 "read" ["text"] (spRead K C) := by
  refine F.okX sc_read (fun _ _ _ _ _ _ us hl => match us, hl with | [_], _ => rfl) len_of fun qual f cdv A0 outer s H vs Q E hr h => ?_
  obtain ⟨_, x, ws, rfl, hx, ews, hw0, hw9, hok, kE, kQ⟩ := h
  refine ⟨_, (pss_cons (ps_set (i := 1) sc_read.nd rfl (Or.inl rfl) (pe_fz (pe_split (pv 0) pe_str)))
      (pss_cons (ps_for (passes_of rfl) rfl (pi_range1 rfl Bm.range (pa_cons (pe_callB call_len_seq rfl Bm.len (by decide +kernel) (pa_cons (pv 1) pa_nil)) pa_nil)) (pg_name (i := 2) sc_read.nd rfl (Or.inl rfl))
        (pss_one (ps_if (pt_not (pt_val (pc g_is_right hr (pa_cons (pv 1) (pa_cons (pv 2) pa_nil)))))
          (pss_one (ps_raise rfl (takes_of rfl rfl rfl rfl) (px XBadText.ox x_BadText hr (pa_cons (pv 2) pa_nil))))
          pss_nil)))
      (pss_cons (ps_mid (ps_if (pt_not (pt_val (pc g_is_done hr (pa_cons (pv 1) pa_nil))))
        (pss_one (ps_raise rfl (takes_of rfl rfl rfl rfl) (px XBadText.ox x_BadText hr (pa_cons (pe_callB call_len_seq rfl Bm.len (by decide +kernel) (pa_cons (pv 1) pa_nil)) pa_nil))))
        pss_nil))
      (pss_cons (ps_if (pt_cmpR op_eq (pe_ix ix_list (pv 1) pe_int (fun _ _ => rfl)) pe_str (nomark _))
        (pss_one (ps_ret (pe_tup (pa_cons pe_str (pa_cons (pe_callTy call_int_str rfl Bm.int (by decide +kernel) (pa_cons (pe_ix ix_list (pv 1) pe_int (fun _ _ => rfl)) pa_nil)) (pa_cons (pe_callTy call_int_str rfl Bm.int (by decide +kernel) (pa_cons (pe_ix ix_list (pv 1) pe_int (fun _ _ => rfl)) pa_nil)) (pa_cons (pe_ix ix_list (pv 1) pe_int (fun _ _ => rfl)) (pa_cons (pe_callTy call_int_str rfl Bm.int (by decide +kernel) (pa_cons (pe_ix ix_list (pv 1) pe_int (fun _ _ => rfl)) pa_nil)) (pa_cons (pe_callTy call_int_str rfl Bm.int (by decide +kernel) (pa_cons (pe_ix ix_list (pv 1) pe_int (fun _ _ => rfl)) pa_nil)) pa_nil)))))))))
        pss_nil)
      (pss_cons (ps_set (i := 3) sc_read.nd rfl (Or.inr rfl) (pe_fz (pe_lc (own := [("word", 5)]) (g := (gName 5)) (tt := tYes) rfl sc_read.nd (pi_list (pe_slice sl_list (pv 1) (po_some pe_int) po_none)) (blkOk_by (N := ["text", "words", "at", "numbers", "rows", "word"]) (sc := defScope s_read) (by decide +kernel)) (fun _ _ _ _ _ => (pg_name (i := 5) sc_read.nd rfl (Or.inl rfl))) (fun _ _ _ _ _ => pts_nil) (fun _ _ _ _ _ => (pe_callTy call_int_str rfl Bm.int (by decide +kernel) (pa_cons (pv 5) pa_nil))))))
      (pss_cons (ps_if (pt_cmpR op_eq (pe_ix ix_list (pv 1) pe_int (fun _ _ => rfl)) pe_str (nomark _))
        (pss_one (ps_ret (pe_tup (pa_cons pe_str (pa_cons (pe_ix ix_list (pv 3) pe_int (fun _ _ => rfl)) (pa_cons (pe_callTy call_tuple_of rfl Bm.tuple (by decide +kernel) (pa_cons (pe_slice sl_list (pv 3) (po_some pe_int) po_none) pa_nil)) pa_nil))))))
        pss_nil)
      (pss_cons (ps_setLc (i := 4) (own := [("at", 2)]) (g := (gName 2)) (tt := tYes) rfl sc_read.nd rfl rfl (sw_true rfl rfl rfl (by decide +kernel)) (pi_range3 rfl Bm.range (pa_cons pe_int (pa_cons (pe_callB call_len_seq rfl Bm.len (by decide +kernel) (pa_cons (pv 3) pa_nil)) (pa_cons pe_int pa_nil)))) (blkOk_by (N := ["text", "words", "at", "numbers", "rows", "word"]) (sc := defScope s_read) (by decide +kernel)) (fun _ _ _ _ _ => (pg_name (i := 2) sc_read.nd rfl (Or.inl rfl))) (fun _ _ _ _ _ => pts_nil) (fun _ _ _ _ _ => (pe_tup (pa_cons (pe_ix (ix_listK K rfl) (pv 3) (pv 2) (fun _ _ => rfl)) (pa_cons (pe_ix (ix_listK K rfl) (pv 3) (pe_op op_add (pv 2) pe_int) (fun _ _ => rfl)) pa_nil)))))
      (pss_one (ps_ret (pe_tup (pa_cons pe_str (pa_cons (pe_ix ix_list (pv 3) pe_int (fun _ _ => rfl)) (pa_cons (pe_ix ix_list (pv 3) pe_int (fun _ _ => rfl)) (pa_cons (pe_callTy call_tuple_of rfl Bm.tuple (by decide +kernel) (pa_cons (pv 4) pa_nil)) pa_nil)))))))))))))), ?_⟩
  have hlen : (ws.map V.str).length = ws.length := List.length_map ..
  refine rd_fz ⟨_, rfl, ⟨x, rfl⟩, x, " ", rfl, rfl, (by decide +kernel), Nat.le_trans (Nat.add_le_add_right hx 2) (by decide), fun p hp => ⟨p, _, rfl, upd_same, fun o => ?_⟩⟩
  rw [ews]
  have g1 := (Grow.refl H).nfz (xs := ws.map V.str) (ob := o) hp
  have f1 : FzL K (upd (upd H p (.lst (ws.map V.str))) p (.frz o (.lst (ws.map V.str)))) p (ws.map V.str) := FzL.frz
  generalize (upd (upd H p (.lst (ws.map V.str))) p (.frz o (.lst (ws.map V.str)))) = H1 at g1 f1
  refine ⟨_, rfl, p, _, rfl, .inl f1.sq, _, rfl, by rw [hlen]; omega, by rw [hlen]; omega, ?_⟩
  rw [hlen, Int.toNat_natCast]
  refine for_range (lo := 0) (n := ws.length) (fun i σ H2 => ∃ v2 : Option V, σ = [some (.str x), some (.ref p), v2, none, none, none] ∧ Grow H H2 ∧ FzL K H2 p (ws.map V.str) ∧ ∀ j, j < i → rightW ws j = true)
    ⟨none, rfl, g1, f1, fun _ h => absurd h (Nat.not_lt_zero _)⟩ ?_ ?_
  · rintro i σ H2 hi ⟨v2, rfl, g2, f2, hj⟩
    refine ⟨_, rfl, _, rfl, rfl, p, ws, i, (by rw [show ((0 : Int) + i) = i by omega]; rfl), f2, hi, hok, fun H3 g3 => ⟨_, rfl, ite2 (fun hb => ?_) fun hb => ?_⟩⟩
    · have hr0 : rightW ws i = false := by simpa using hb
      refine ⟨_, rfl, (by show 1 ≤ 1000; decide), xmade fun d hd => ?_⟩
      refine kE i (badW_some hi hj hr0) d _ ((g2.trans g3).old hd) ?_
      rw [show ((0 : Int) + i) = i by omega]
      exact upd_same
    · have hr1 : rightW ws i = true := by simpa using hb
      refine ⟨_, rfl, g2.trans g3, f2.mono g3.mono, fun j h => ?_⟩
      rcases Nat.lt_succ_iff_lt_or_eq.mp h with h | rfl
      · exact hj j h
      · exact hr1
  rintro σ H2 ⟨v2, rfl, g2, f2, hall⟩
  -- if not is_done(words)
  refine rd_mid (fun σ' H' => σ' = [some (.str x), some (.ref p), v2, none, none, none] ∧ Grow H H' ∧ FzL K H' p (ws.map V.str) ∧ doneW ws = true) ?_ ?_
  · refine ⟨_, rfl, rfl, p, ws, rfl, f2, hw0, fun H3 g3 => ⟨_, rfl, ite2 (fun hb => ?_) fun hb => ?_⟩⟩
    · have hr0 : doneW ws = false := by simpa using hb
      refine ⟨_, rfl, p, _, rfl, .inl (f2.mono g3.mono).sq, (by show 1 ≤ 1000; decide), xmade fun d hd => ?_⟩
      rw [hlen]
      exact kE ws.length (badW_len hall hr0) d _ ((g2.trans g3).old hd) upd_same
    · exact ⟨rfl, g2.trans g3, f2.mono g3.mono, by simpa using hb⟩
  rintro _ H3 ⟨rfl, g3, f3, hd⟩
  have good := badW_none hall hd
  have kk := kQ good
  have eqS : ∀ {u v : Str}, decide (V.str u = V.str v) = true → u = v := fun h => V.str.inj (of_decide_eq_true h)
  have neS : ∀ {u v : Str}, ¬ decide (V.str u = V.str v) = true → ¬ u = v := fun h z => h (decide_eq_true (congrArg V.str z))
  have ix : ∀ {H'} (i : Nat), Grow H3 H' → i < ws.length → SqL K H' p (ws.map V.str) ∧ atI (ws.map V.str) (i : Int) = some (.str (ws.getD i "")) := fun i g hi => ⟨(f3.mono g.mono).sq, ixS hi⟩
  have nm : ∀ i, i < ws.length → i ≠ 0 → ¬(ws.getD 0 "" = "change" ∧ i = 3) → intText? (ws.getD i "") = some (numD (ws.getD i "")) ∧ (ws.getD i "").length ≤ 640 := fun i h1 h2 h3 => numW_text (right_num (hall i h1) h2 h3)
  refine ⟨_, rfl, p, _, 0, _, rfl, rfl, f3.sq, ixS hw0, rfl, _, rfl, ite2 (fun c1 => ?_) fun c1 => ?_⟩
  · -- a change
    have e0 := eqS c1
    have h6 : ws.length = 6 := by
      unfold doneW at hd
      rw [if_pos e0] at hd
      exact of_decide_eq_true hd
    have m1 := nm 1 (by omega) (by decide) (fun z => absurd z.2 (by decide))
    have m2 := nm 2 (by omega) (by decide) (fun z => absurd z.2 (by decide))
    have m4 := nm 4 (by omega) (by decide) (fun z => absurd z.2 (by decide))
    have m5 := nm 5 (by omega) (by decide) (fun z => absurd z.2 (by decide))
    refine ⟨_, rfl, p, _, 1, _, rfl, rfl, f3.sq, ixS (i := 1) (by omega), _, _, rfl, m1.1, m1.2, ?_⟩
    refine ⟨_, rfl, p, _, 2, _, rfl, rfl, f3.sq, ixS (i := 2) (by omega), _, _, rfl, m2.1, m2.2, ?_⟩
    refine ⟨_, rfl, p, _, 3, _, rfl, rfl, f3.sq, ixS (i := 3) (by omega), ?_⟩
    refine ⟨_, rfl, p, _, 4, _, rfl, rfl, f3.sq, ixS (i := 4) (by omega), _, _, rfl, m4.1, m4.2, ?_⟩
    refine ⟨_, rfl, p, _, 5, _, rfl, rfl, f3.sq, ixS (i := 5) (by omega), _, _, rfl, m5.1, m5.2, ⟨(by show 6 ≤ sizeLine; decide), fun t ht => ?_⟩⟩
    refine kk _ _ (g3.old ht) ?_
    unfold letD
    rw [if_pos e0]
    exact .tup upd_same (.cons .str (.cons .int (.cons .int (.cons .str (.cons .int (.cons .int .nil))))))
  have n0 := neS c1
  -- numbers = [int(word) for word in words[1:]]
  refine rd_fz ?_
  refine ⟨_, rfl, _, rfl, p, _, rfl, f3.sq, fun q hq => ?_⟩
  have ecut : cutV (ws.map V.str) (some (1 : Int)) none = (ws.drop 1).map V.str := by
    rw [show (some (1 : Int)) = some ((1 : Nat) : Int) from rfl, cutV_from (by rw [hlen]; omega), List.map_drop]
  rw [ecut]
  have t4 := (Tr.refl H3 []).new (o := .lst ((ws.drop 1).map V.str)) hq nl
  refine ⟨q, rfl, ⟨_, SqL.of upd_same⟩, fun D hD => ?_⟩
  have t5 := t4.new (o := .lst []) hD nl
  refine lc_list (K := K) (a := q) (xs := (ws.drop 1).map V.str) (fun i H4 => Tr H3 [] H4 [(D, .lst ((((ws.drop 1).map numD).take i).map V.int)), (q, .lst ((ws.drop 1).map V.str))]) t5 (fun i H4 _ t => SqL.of t.own.tail.head) ?_ ?_
  · rintro i y H4 hi t
    have hil : i < (ws.drop 1).length := by
      have := (List.getElem?_eq_some_iff.mp hi).1
      simpa using this
    rw [List.length_drop] at hil
    have ey : y = .str (ws.getD (i + 1) "") := by
      rw [List.getElem?_map, List.getElem?_drop, Nat.add_comm 1 i, getD_at (show i + 1 < ws.length by omega)] at hi
      exact (Option.some.inj hi).symm
    subst ey
    have mi := nm (i + 1) (by omega) (by omega) (fun z => n0 z.1)
    refine ⟨rfl, _, rfl, _, _, rfl, mi.1, mi.2, ?_⟩
    refine ⟨_, t.own.head, ?_, ?_⟩
    · rw [List.length_map]
      exact small1000 (by rw [List.length_take, List.length_map, List.length_drop]; omega)
    · have e : ((ws.drop 1).map numD)[i]? = some (numD (ws.getD (i + 1) "")) := by
        rw [List.getElem?_map, List.getElem?_drop, Nat.add_comm 1 i, getD_at (show i + 1 < ws.length by omega)]
        rfl
      rw [take_snoc e, List.map_append]
      exact t.put .nil nl
  rintro H4 t
  rw [List.take_of_length_le (by simp)] at t
  refine ⟨D, _, rfl, t.own.head, fun o2 => ?_⟩
  have g5 := g3.trans ((t.fz (ob := o2) .nil).tail)
  have f5 : FzL K (upd H4 D (.frz o2 (.lst (((ws.drop 1).map numD).map V.int)))) D (((ws.drop 1).map numD).map V.int) := FzL.frz
  have p5 : FzL K (upd H4 D (.frz o2 (.lst (((ws.drop 1).map numD).map V.int)))) p (ws.map V.str) := f3.mono ((t.fz (ob := o2) .nil).mono)
  generalize (upd H4 D (.frz o2 (.lst (((ws.drop 1).map numD).map V.int)))) = H5 at g5 f5 p5
  have hnl : ((ws.drop 1).map numD).length = ws.length - 1 := by rw [List.length_map, List.length_drop]
  generalize hns : (ws.drop 1).map numD = ns at f5 hnl
  have nat_ : ∀ {i : Nat} {z : Int}, ns[i]? = some z → atI (ns.map V.int) (i : Int) = some (.int z) := fun {i z} h => by
    have hi := (List.getElem?_eq_some_iff.mp h).1
    unfold atI
    rw [ixN_nat (by rw [List.length_map]; exact hi)]
    show (ns.map V.int)[i]? = _
    rw [List.getElem?_map, h]
    rfl
  have nsg : ∀ i, i + 1 < ws.length → ns[i]? = some (numD (ws.getD (i + 1) "")) := fun i h => by
    rw [← hns, List.getElem?_map, List.getElem?_drop, Nat.add_comm 1 i, getD_at h]
    rfl
  have nil_ : (ns.map V.int).length = ws.length - 1 := by rw [List.length_map, hnl]
  refine ⟨_, rfl, p, _, 0, _, rfl, rfl, p5.sq, ixS hw0, rfl, _, rfl, ite2 (fun c2 => ?_) fun c2 => ?_⟩
  · -- a beat
    have e0 := eqS c2
    have h3 : 2 < ws.length := by
      unfold doneW at hd
      rw [if_neg n0, if_neg (fun z => beat_ne2 (e0.symm.trans z))] at hd
      exact of_decide_eq_true hd
    refine ⟨_, rfl, D, _, 0, _, rfl, rfl, f5.sq, nat_ (nsg 0 (by omega)), ?_⟩
    refine ⟨_, rfl, _, rfl, D, _, rfl, f5.sq, fun q2 hq2 => ?_⟩
    have ecut2 : cutV (ns.map V.int) (some (1 : Int)) none = (ns.drop 1).map V.int := by
      rw [show (some (1 : Int)) = some ((1 : Nat) : Int) from rfl, cutV_from (by rw [nil_]; omega), List.map_drop]
    rw [ecut2]
    refine ⟨q2, _, rfl, .inl ⟨SqL.of upd_same, fun l hl => ⟨(by show 3 ≤ sizeLine; decide), fun t ht => ?_⟩⟩⟩
    refine kk _ _ (((g5.old hq2).old hl).old ht) ?_
    unfold letD
    rw [if_neg n0, if_pos e0]
    refine .tup upd_same (.cons .str (.cons .int (.cons (.tup ((Mono.new ht) _ _ upd_same trivial) ?_) .nil)))
    have e : (ws.drop 2).map (fun w => PyData.int (numD w)) = (ns.drop 1).map PyData.int := by
      rw [← hns, ← List.map_drop, List.drop_drop, List.map_map]
      rfl
    rw [e]
    exact RpL.of_ints _
  · -- a part
    have n2 := neS c2
    have e0 : ws.getD 0 "" = "part" := by
      have h00 := hall 0 hw0
      unfold rightW at h00
      rw [if_pos rfl] at h00
      unfold kindOk at h00
      simp only [Bool.or_eq_true, beq_iff_eq] at h00
      rcases h00 with (h | h) | h
      · exact absurd h n0
      · exact h
      · exact absurd h n2
    have h4 : 4 < ws.length ∧ ws.length % 2 = 1 := by
      unfold doneW at hd
      rw [if_neg n0, if_pos e0] at hd
      simpa using hd
    obtain ⟨r, er⟩ : ∃ r, ws.length = 2 * r + 3 := ⟨(ws.length - 3) / 2, by omega⟩
    refine ⟨_, rfl, D, _, rfl, .inl f5.sq, 2, ((2 + 2 * r : Nat) : Int), 2, r, ?_, rg2 2 r (by decide) (by omega), fun D2 hD2 => ?_⟩
    · rw [nil_, show ws.length - 1 = 2 + 2 * r by omega]
    refine lc_it (walk_rangeC (lo := 2) (c := 2) (n := r)) (fun i H6 => ∃ xs, Tr H5 [] H6 [(D2, .lst xs)] ∧ RpL K H6 (((pairs (ns.drop 2)).take i).map fun r => PyData.tuple [.int r.1, .int r.2]) xs)
      ⟨[], (Tr.refl H5 []).new hD2 nl, .nil⟩ (fun _ _ _ _ => trivial) ?_ ?_
    · rintro i v H6 H7 hi ⟨xs, t6, rx⟩ ⟨rfl, rfl⟩
      have f6 := f5.mono t6.mono
      have a1 := nsg (2 + 2 * i) (by omega)
      have a2 := nsg (2 + 2 * i + 1) (by omega)
      have ea : ((2 : Int) + (i : Nat) * 2) = ((2 + 2 * i : Nat) : Int) := by omega
      have eb : ((2 : Int) + (i : Nat) * 2) + 1 = ((2 + 2 * i + 1 : Nat) : Int) := by omega
      refine ⟨rfl, ?_⟩
      refine ⟨_, rfl, _, rfl, D, _, _, _, rfl, rfl, f6.sq, (by rw [ea]; exact nat_ a1), ?_⟩
      refine ⟨_, rfl, _, rfl, _, _, rfl, rfl, D, _, _, _, rfl, rfl, f6.sq, (by rw [eb]; exact nat_ a2), ⟨(by show 2 ≤ sizeLine; decide), fun t ht => ?_⟩⟩
      obtain ⟨s3, r3⟩ := snoc_tup (K := K) (ds := [.int (numD (ws.getD (2 + 2 * i + 1) "")), .int (numD (ws.getD (2 + 2 * i + 1 + 1) ""))]) t6.own ht (.cons .int (.cons .int .nil))
      have ep : (pairs (ns.drop 2))[i]? = some (numD (ws.getD (2 + 2 * i + 1) ""), numD (ws.getD (2 + 2 * i + 1 + 1) "")) := pairs_get (by rw [List.getElem?_drop]; exact a1) (by rw [List.getElem?_drop]; exact a2)
      have hx : xs.length ≤ 1000 := by rw [rx.length, List.length_map, List.length_take]; omega
      refine ⟨xs, by rw [upd_ne (ne_of_none t6.own.head ht)]; exact t6.own.head, small1000 hx, xs ++ [.ref t], t6.trans s3, ?_⟩
      rw [take_snoc ep, List.map_append]
      exact (rx.mono s3.mono).snoc r3
    · rintro H6 ⟨xs, t6, rx⟩
      rw [List.take_of_length_le (by rw [pairs_len, List.length_drop, hnl]; omega)] at rx
      have f6 := f5.mono t6.mono
      refine ⟨_, rfl, D, _, 0, _, rfl, rfl, f6.sq, nat_ (nsg 0 (by omega)), ?_⟩
      refine ⟨_, rfl, D, _, 1, _, rfl, rfl, f6.sq, nat_ (i := 1) (nsg 1 (by omega)), ?_⟩
      refine ⟨_, rfl, D2, _, rfl, .inl ⟨SqL.of t6.own.head, fun l hl => ⟨(by show 4 ≤ sizeLine; decide), fun t ht => ?_⟩⟩⟩
      refine kk _ _ (g5.trans ((t6.old hl).old ht).tail) ?_
      unfold letD
      rw [if_neg n0, if_neg n2]
      refine .tup upd_same (.cons .str (.cons .int (.cons .int (.cons (.tup ((Mono.new ht) _ _ upd_same trivial) ?_) .nil))))
      have e : (ws.drop 3).map numD = ns.drop 2 := by
        rw [← hns, ← List.map_drop, List.drop_drop]
      rw [e]
      exact rx.mono ((Mono.new hl).trans (Mono.new ht))
end
end Cu

namespace Cu
open PySem PySem.Spec PyProof.Rows L2
open TL (tl)
def numsL : Letter → List Int
  | .change _ _ _ => []
  | .part n b rows => n :: b :: flatR rows
  | .beat n ls => n :: ls.map fun k : Nat => (k : Int)
theorem flatR_append (a b : List (Int × Nat)) : flatR (a ++ b) = flatR a ++ flatR b := by
  induction a with
  | nil => rfl
  | cons r a ih => simp only [List.cons_append, flatR, ih]
theorem Tr.over {H H1 H2 : Hp} {C C1 O : Lg} (t : Tr H C H1 C1) (u : Tr H1 [] H2 O) : Tr H C H2 (O ++ C1) := t.trans (by simpa using u.right (D := C1))
theorem int_gt {ns : List Int} {i : Nat} {y : V} (h : (ns.map V.int)[i]? = some y) : ∃ n, ns[i]? = some n ∧ y = .int n := by
  rw [List.getElem?_map] at h
  cases e : ns[i]? with
  | none =>
    rw [e] at h
    cases h
  | some n =>
    rw [e] at h
    exact ⟨n, rfl, (Option.some.inj h).symm⟩
theorem at0 {x : V} {xs : List V} : atI (x :: xs) 0 = some x := by
  show ((ixN (xs.length + 1) ((0 : Nat) : Int)).bind fun j => (x :: xs)[j]?) = _
  rw [ixN_nat (by omega)]
  rfl
theorem slog {i : Int} (h1 : -1000000000 < i) (h2 : i < 1000000000) : i.natAbs.log2 < 1920 := by
  by_cases h : i.natAbs = 0
  · rw [h]
    decide
  · have : i.natAbs.log2 < 64 := (Nat.log2_lt h).mpr (by
      have : (2 : Nat) ^ 64 = 18446744073709551616 := by decide
      omega)
    omega
theorem join_sz {ys : List Str} (h : ∀ w ∈ ys, w.length ≤ 10) (hl : ys.length ≤ 100) : (ys.map (·.length)).sum + ys.length * (Str.length " ") ≤ 16777216 := by
  have : (ys.map (·.length)).sum ≤ 10 * ys.length := by
    clear hl
    induction ys with
    | nil => simp
    | cons y ys ih =>
      have h1 := h y List.mem_cons_self
      have h2 := ih fun w hw => h w (List.mem_cons_of_mem _ hw)
      simp only [List.map_cons, List.sum_cons, List.length_cons]
      omega
  have e : Str.length " " = 1 := by decide +kernel
  rw [e]
  omega
abbrev s_numbers_of : Stmt := (top 12)
theorem sc_numbers_of : FnScope ["letter", "found", "row"] ["letter"] (defScope s_numbers_of) := ⟨rfl, rfl, rfl, by decide +kernel, rfl, by decide +kernel, by decide +kernel⟩

abbrev s_written : Stmt := (top 13)
theorem sc_written : FnScope ["letter", "part", "number"] ["letter"] (defScope s_written) := ⟨rfl, rfl, rfl, by decide +kernel, rfl, by decide +kernel, by decide +kernel⟩

def spNums (K : PySem.W.Frag) : Sp := fun vs H Q _ => vs.length = 1 ∧ ∃ (v : V) (l : Letter), vs = [v] ∧ Rp K H l.enc v ∧ Small l ∧ (∀ n c a, l ≠ .change n c a) ∧ ∀ p H', Tr H [] H' [(p, .lst ((numsL l).map V.int))] → Q (.ref p) H'
def spText (K : PySem.W.Frag) : Sp := fun vs H Q _ => vs.length = 1 ∧ ∃ (v : V) (l : Letter), vs = [v] ∧ Rp K H l.enc v ∧ Small l ∧ ∀ H', Grow H H' → Q (.str (textL l)) H'
section
variable {P : Program} {w : World} {K : PySem.W.Frag} {mg : Str → Option Value} {base : Heap}
theorem ok_numbers_of (F : Fd K mg "numbers_of" s_numbers_of) (Bm : Blt mg) : Gf P w K mg base 1 "numbers_of" ["letter"] (spNums K) := by
  refine F.ok sc_numbers_of (fun _ _ _ _ _ _ us hl => match us, hl with | [_], _ => rfl) len_of fun qual f cdv A0 outer s H vs Q E hr h => ?_
  obtain ⟨_, v, l, rfl, hv, hs, hc, k⟩ := h
  refine ⟨_, (pss_cons (ps_if (pt_cmpR op_eq (pe_ix ix_tup (pv 0) pe_int (fun _ _ => rfl)) pe_str (nomark _))
        (pss_one (ps_ret (pe_op op_cat (pe_lst (pa_cons (pe_ix ix_tup (pv 0) pe_int (fun _ _ => rfl)) pa_nil)) (pe_callTy call_list_of rfl Bm.list (by decide +kernel) (pa_cons (pe_ix ix_tup (pv 0) pe_int (fun _ _ => rfl)) pa_nil)))))
        pss_nil)
      (pss_cons (ps_set (i := 1) sc_numbers_of.nd rfl (Or.inl rfl) (pe_lst (pa_cons (pe_ix ix_tup (pv 0) pe_int (fun _ _ => rfl)) (pa_cons (pe_ix ix_tup (pv 0) pe_int (fun _ _ => rfl)) pa_nil))))
      (pss_cons (ps_for PassesOwn.never rfl (pi_tup (pe_ix ix_tup (pv 0) pe_int (fun _ _ => rfl))) (pg_name (i := 2) sc_numbers_of.nd rfl (Or.inl rfl))
        (pss_one (ps_expr (pe_bm PySem.F.plainAttrs_list PySem.F.slot_list_extend PySem.F.type_list_extend mt_extend (pv 1) (pa_cons (pe_callTy call_list_of rfl Bm.list (by decide +kernel) (pa_cons (pv 2) pa_nil)) pa_nil)))))
      (pss_one (ps_ret (pv 1)))))), ?_⟩
  cases l with
  | change n c a => exact absurd rfl (hc n c a)
  | beat n ls =>
    obtain ⟨a, t, rfl, ha, ht⟩ := hv.beat_inv
    obtain ⟨_, _, h8, _⟩ := hs
    refine ⟨_, rfl, a, _, 0, _, rfl, rfl, SqT.of ha, rfl, rfl, _, rfl, iteP (by decide +kernel) ?_⟩
    refine ⟨_, rfl, a, _, 1, _, rfl, rfl, SqT.of ha, rfl, ⟨(by show 1 ≤ sizeLine; decide), fun p hp => ?_⟩⟩
    have t1 := (Tr.refl H []).new (o := .lst [.int (n : Int)]) hp nl
    refine ⟨_, rfl, a, _, 2, _, rfl, rfl, SqT.of (t1.mono _ _ ha trivial), rfl, t, _, rfl, .inr (SqT.of (t1.mono _ _ ht trivial)), fun q hq => ?_⟩
    have t2 := t1.new (o := .lst (ls.map fun k : Nat => V.int k)) hq nl
    refine ⟨p, q, _, _, rfl, rfl, t2.own.tail.head, t2.own.head, ?_, fun r hr2 => ?_⟩
    · rw [List.length_map]
      exact Nat.le_trans (show 1 + ls.length ≤ 1000 by omega) (by decide)
    · have t3 := t2.new (o := .lst ([.int (n : Int)] ++ ls.map fun k : Nat => V.int k)) hr2 nl
      refine k r _ ?_
      have e : (numsL (.beat n ls)).map V.int = [.int (n : Int)] ++ ls.map fun k : Nat => V.int k := by
        show V.int n :: (ls.map fun k : Nat => (k : Int)).map V.int = _
        rw [List.map_map]
        rfl
      rw [e]
      exact t3.sub (List.Sublist.cons_cons _ (List.nil_sublist _))
  | part n b rows =>
    obtain ⟨a, t, xs, rfl, ha, ht, hxs, hrow⟩ := hv.part_inv
    obtain ⟨_, _, _, h8, _⟩ := hs
    refine ⟨_, rfl, a, _, 0, _, rfl, rfl, SqT.of ha, rfl, rfl, _, rfl, iteM (by decide +kernel) ?_⟩
    refine ⟨_, rfl, a, _, 1, _, rfl, rfl, SqT.of ha, rfl, _, rfl, a, _, 2, _, rfl, rfl, SqT.of ha, rfl, ⟨(by show 2 ≤ sizeLine; decide), fun p hp => ?_⟩⟩
    have t1 := (Tr.refl H []).new (o := .lst [.int (n : Int), .int (b : Int)]) hp nl
    refine ⟨_, rfl, a, _, 3, _, rfl, rfl, SqT.of (t1.mono _ _ ha trivial), rfl, t, rfl, ⟨_, SqT.of (t1.mono _ _ ht trivial)⟩, ?_⟩
    refine for_tup (K := K) (a := t) (xs := xs) (fun i σ H2 => ∃ v2 : Option V, σ = [some (.ref a), some (.ref p), v2] ∧ Tr H [] H2 [(p, .lst (((n : Int) :: (b : Int) :: flatR (rows.take i)).map V.int))])
      ⟨none, rfl, t1⟩ (fun i σ H2 _ ⟨_, _, t2⟩ => SqT.of (t2.mono _ _ ht trivial)) ?_ ?_
    · rintro i y σ H2 hi ⟨v2, rfl, t2⟩
      have hi' : i < rows.length := by
        have := (List.getElem?_eq_some_iff.mp hi).1
        omega
      obtain ⟨r, er⟩ : ∃ r, rows[i]? = some r := ⟨rows[i], List.getElem?_eq_getElem hi'⟩
      obtain ⟨q, hq, hq2⟩ := hrow i r er
      rw [hi] at hq
      cases hq
      refine ⟨_, rfl, .inl ⟨rfl, _, SqL.of t2.own.head⟩, _, rfl, q, _, rfl, .inr (SqT.of (t2.mono _ _ hq2 trivial)), fun m hm => ?_⟩
      have t3 := t2.new (o := .lst [.int r.1, .int (r.2 : Int)]) hm nl
      have hfl : (flatR (rows.take i)).length ≤ 20 := by rw [flatR_len, List.length_take]; omega
      refine ⟨p, m, _, _, rfl, rfl, t3.own.tail.head, t3.own.head, ?_, ?_⟩
      · simp only [List.length_map, List.length_cons, List.length_nil]
        exact Nat.le_trans (show _ ≤ 1000 by omega) (by decide)
      · refine ⟨_, rfl, ?_⟩
        rw [take_snoc er, flatR_append]
        have e : ((n : Int) :: (b : Int) :: (flatR (rows.take i) ++ flatR [r])).map V.int = ((n : Int) :: (b : Int) :: flatR (rows.take i)).map V.int ++ [.int r.1, .int (r.2 : Int)] := by
          simp [flatR]
        rw [e]
        exact (t3.swap2.put .nil nl).sub (List.Sublist.cons_cons _ (List.nil_sublist _))
    · rintro σ H2 ⟨v2, rfl, t2⟩
      rw [hxs, List.take_of_length_le (Nat.le_refl _)] at t2
      exact ⟨_, rfl, k p H2 t2⟩
theorem ok_written (F : Fd K mg "written" s_written) (Bm : Blt mg) (g_numbers_of : Gf P w K mg base 1 "numbers_of" ["letter"] (spNums K)) : Gf P w K mg base 2 "written" ["letter"] (spText K) := by
  refine F.ok sc_written (fun _ _ _ _ _ _ us hl => match us, hl with | [_], _ => rfl) len_of fun qual f cdv A0 outer s H vs Q E hr h => ?_
  obtain ⟨_, v, l, rfl, hv, hs, k⟩ := h
  refine ⟨_, (pss_cons (ps_if (pt_cmpR op_eq (pe_ix ix_tup (pv 0) pe_int (fun _ _ => rfl)) pe_str (nomark _))
        (pss_one (ps_ret (pe_join pe_str (pe_lc (own := [("part", 1)]) (g := (gName 1)) (tt := tYes) rfl sc_written.nd (pi_tup (pv 0)) (blkOk_by (N := ["letter", "part", "number"]) (sc := defScope s_written) (by decide +kernel)) (fun _ _ _ _ _ => (pg_name (i := 1) sc_written.nd rfl (Or.inl rfl))) (fun _ _ _ _ _ => pts_nil) (fun _ _ _ _ _ => (pe_callTy call_str_any rfl Bm.str (by decide +kernel) (pa_cons (pv 1) pa_nil)))))))
        pss_nil)
      (pss_one (ps_ret (pe_join pe_str (pe_op op_cat (pe_lst (pa_cons (pe_ix ix_tup (pv 0) pe_int (fun _ _ => rfl)) pa_nil)) (pe_lc (own := [("number", 2)]) (g := (gName 2)) (tt := tYes) rfl sc_written.nd (pi_list (pc g_numbers_of hr (pa_cons (pv 0) pa_nil))) (blkOk_by (N := ["letter", "part", "number"]) (sc := defScope s_written) (by decide +kernel)) (fun _ _ _ _ _ => (pg_name (i := 2) sc_written.nd rfl (Or.inl rfl))) (fun _ _ _ _ _ => pts_nil) (fun _ _ _ _ _ => (pe_callTy call_str_int rfl Bm.str (by decide +kernel) (pa_cons (pv 2) pa_nil))))))))), ?_⟩
  have hl := wordsL_len hs
  have hw := wordsL_small hs
  -- a part or a beat
  have oth : (∀ n c a, l ≠ .change n c a) → ∃ (a : Addr) (w0 : Str) (x0 : List V), v = .ref a ∧ H a = some (.tup (.str w0 :: x0)) ∧ ¬ w0 = "change" ∧ wordsL l = w0 :: (numsL l).map nS ∧ ∀ z ∈ numsL l, -1000000000 < z ∧ z < 1000000000 := fun hc => by
    cases l with
    | change n c a => exact absurd rfl (hc n c a)
    | part n b rows =>
      obtain ⟨a, t, xs, rfl, ha, _⟩ := hv.part_inv
      obtain ⟨h1, h2, _, _, h5⟩ := hs
      refine ⟨a, _, _, rfl, ha, part_ne, rfl, fun z hz => ?_⟩
      simp only [numsL, List.mem_cons] at hz
      rcases hz with rfl | rfl | hz
      · omega
      · omega
      · exact flatR_small h5 z hz
    | beat n ls =>
      obtain ⟨a, t, rfl, ha, _⟩ := hv.beat_inv
      obtain ⟨h1, _, _, h5⟩ := hs
      refine ⟨a, _, _, rfl, ha, beat_ne, ?_, fun z hz => ?_⟩
      · show ("beat" : Str) :: nS n :: ls.map (fun k : Nat => nS k) = ("beat" : Str) :: nS n :: ((ls.map fun k : Nat => (k : Int)).map nS)
        rw [List.map_map]
        rfl
      · simp only [numsL, List.mem_cons] at hz
        rcases hz with rfl | hz
        · omega
        · obtain ⟨k, hk, rfl⟩ := List.mem_map.mp hz
          have := h5 k hk
          omega
  by_cases hch : ∀ n c a, l ≠ .change n c a
  · obtain ⟨a, w0, x0, rfl, ha, hne, ew, hz⟩ := oth hch
    have hll : (numsL l).length ≤ 20 := by
      have := hl.2
      rw [ew, List.length_cons, List.length_map] at this
      omega
    refine ⟨_, rfl, a, _, 0, _, rfl, rfl, SqT.of ha, at0, rfl, _, rfl, iteM (fun z => hne (V.str.inj (of_decide_eq_true z))) ?_⟩
    refine ⟨⟨" ", rfl⟩, _, rfl, a, _, 0, _, rfl, rfl, SqT.of ha, at0, ⟨(by show 1 ≤ sizeLine; decide), fun p hp => ?_⟩⟩
    have t1 := (Tr.refl H []).new (o := .lst [.str w0]) hp nl
    refine ⟨_, rfl, rfl, _, l, rfl, hv.mono t1.mono, hs, hch, fun q H2 u2 => ?_⟩
    have t2 : Tr H [] H2 [(q, .lst ((numsL l).map V.int)), (p, .lst [.str w0])] := t1.over u2
    refine ⟨q, rfl, ⟨_, SqL.of t2.own.head⟩, fun D hD => ?_⟩
    refine lc_list (K := K) (a := q) (xs := (numsL l).map V.int) (fun i H3 => Tr H [] H3 [(D, .lst ((((numsL l).map nS).take i).map V.str)), (q, .lst ((numsL l).map V.int)), (p, .lst [.str w0])]) (t2.new hD nl) (fun i H3 _ t => SqL.of t.own.tail.head) ?_ ?_
    · intro i y H3 hi t
      obtain ⟨z, ez, rfl⟩ := int_gt hi
      have hzz := hz z (List.mem_of_getElem? ez)
      refine ⟨rfl, _, rfl, z, rfl, slog hzz.1 hzz.2, ?_⟩
      refine ⟨_, t.own.head, ?_, ?_⟩
      · rw [List.length_map]
        exact small1000 (by rw [List.length_take, List.length_map]; omega)
      · rw [take_snoc (x := nS z) (by rw [List.getElem?_map, ez]; rfl), List.map_append]
        exact t.put .nil nl
    · intro H3 t
      rw [List.take_of_length_le (by rw [List.length_map, List.length_map]; exact Nat.le_refl _)] at t
      refine ⟨p, D, _, _, rfl, rfl, t.own.tail.tail.head, t.own.head, ?_, fun r hr2 => ?_⟩
      · rw [List.length_map, List.length_map]
        exact Nat.le_trans (show 1 + (numsL l).length ≤ 1000 by omega) (by decide)
      · have t4 := t.new (o := .lst ([.str w0] ++ ((numsL l).map nS).map V.str)) hr2 nl
        have e : [V.str w0] ++ ((numsL l).map nS).map V.str = (wordsL l).map V.str := by rw [ew]; rfl
        refine ⟨" ", r, wordsL l, rfl, rfl, .inl (SqL.of (by rw [← e]; exact t4.own.head)), join_sz hw (by omega), ?_⟩
        exact k _ t4.tail.tail.tail.tail
  cases l with
  | change n c ahead =>
    obtain ⟨a, rfl, ha⟩ := hv.chg_inv
    obtain ⟨h1, h2, h3, h4, h5⟩ := hs
    refine ⟨_, rfl, a, _, 0, _, rfl, rfl, SqT.of ha, rfl, rfl, _, rfl, iteP (by decide +kernel) ?_⟩
    refine ⟨⟨" ", rfl⟩, _, rfl, a, rfl, ⟨_, SqT.of ha⟩, fun D hD => ?_⟩
    refine lc_tup (K := K) (a := a) (xs := _) (fun i H2 => Tr H [] H2 [(D, .lst (((wordsL (.change n c ahead)).take i).map V.str))]) ((Tr.refl H []).new hD nl) (fun i H2 _ t => SqT.of (t.mono _ _ ha trivial)) ?_ ?_
    · intro i y H2 hi t
      have hw' : ∃ w : Str, (wordsL (.change n c ahead))[i]? = some w ∧ ((∃ z : Int, y = .int z ∧ -1000000000 < z ∧ z < 1000000000 ∧ w = nS z) ∨ y = .str w) := by
        match i, hi with
        | 0, hi => exact ⟨_, rfl, .inr (Option.some.inj hi).symm⟩
        | 1, hi => exact ⟨_, rfl, .inl ⟨n, (Option.some.inj hi).symm, by omega, by omega, rfl⟩⟩
        | 2, hi => exact ⟨_, rfl, .inl ⟨c.key, (Option.some.inj hi).symm, by omega, by omega, rfl⟩⟩
        | 3, hi => exact ⟨_, rfl, .inr (Option.some.inj hi).symm⟩
        | 4, hi => exact ⟨_, rfl, .inl ⟨c.worth, (Option.some.inj hi).symm, h3, h4, rfl⟩⟩
        | 5, hi => exact ⟨_, rfl, .inl ⟨ahead, (Option.some.inj hi).symm, by omega, by omega, rfl⟩⟩
        | i + 6, hi => simp at hi
      obtain ⟨w0, ew, hy⟩ := hw'
      have fin : ∃ acc, H2 D = some (.lst acc) ∧ acc.length < sizeLine ∧ Tr H [] (upd H2 D (.lst (acc ++ [V.str w0]))) [(D, .lst (((wordsL (.change n c ahead)).take (i + 1)).map V.str))] := by
        refine ⟨_, t.own.head, ?_, ?_⟩
        · rw [List.length_map]
          exact small1000 (by rw [List.length_take]; omega)
        · rw [take_snoc ew, List.map_append]
          exact t.put .nil nl
      rcases hy with ⟨z, rfl, z1, z2, rfl⟩ | rfl
      · exact ⟨rfl, _, rfl, .inl ⟨z, rfl, slog z1 z2, fin⟩⟩
      · exact ⟨rfl, _, rfl, .inr ⟨_, rfl, fin⟩⟩
    · intro H2 t
      replace t : Tr H [] H2 [(D, .lst ((wordsL (.change n c ahead)).map V.str))] := t
      refine ⟨" ", D, wordsL (.change n c ahead), rfl, rfl, .inl (SqL.of t.own.head), join_sz hw (by omega), ?_⟩
      exact k H2 t.tail
  | part n b rows => exact absurd (fun _ _ _ z => nomatch z) hch
  | beat n ls => exact absurd (fun _ _ _ z => nomatch z) hch
end
end Cu

namespace Cu
open PySem PySem.Spec PyProof.Rows L2
open TL (tl numL joinL)
/-! letters of stories of small worths have short words -/
def ChSm (S A : Nat) (c : Ch) : Prop := c.worth.natAbs ≤ (if c.set then S else A)
theorem wofR_bd {S A : Nat} {k : Nat} : ∀ {cs : List Ch}, (∀ c ∈ cs, ChSm S A c) → (wofR cs k).natAbs ≤ S + A * cs.length
  | [], _ => by simp [wofR]
  | c :: r, h => by
    have ih := wofR_bd (cs := r) (k := k) fun c hc => h c (List.mem_cons_of_mem _ hc)
    have hc := h c List.mem_cons_self
    unfold ChSm at hc
    show (wst k (wofR r k) c).natAbs ≤ _
    have e : A * (c :: r).length = A * r.length + A := by rw [List.length_cons, Nat.mul_succ]
    rw [e]
    generalize A * r.length = M at *
    unfold wst
    split
    · by_cases hs : c.set = true
      · rw [if_pos hs] at hc ⊢
        omega
      · rw [if_neg hs] at hc ⊢
        omega
    · omega
theorem wof_bd {S A : Nat} {k n : Nat} {cs : List Ch} (h : ∀ c ∈ cs, ChSm S A c) : (wof (cs.take n) k).natAbs ≤ S + A * cs.length := by
  have q := wofR_bd (S := S) (A := A) (k := k) (cs := (cs.take n).reverse) fun c hc => h c (List.mem_of_mem_take (List.mem_reverse.mp hc))
  have l : (cs.take n).reverse.length ≤ cs.length := by rw [List.length_reverse, List.length_take]; omega
  have := Nat.mul_le_mul_left A l
  show (wofR (cs.take n).reverse k).natAbs ≤ _
  omega
theorem lofR_bd : ∀ (cs : List Ch) (k : Nat), lofR cs k ≤ cs.length
  | [], _ => Nat.le_refl _
  | c :: r, k => by
    show (if c.key = k then r.length + 1 else lofR r k) ≤ r.length + 1
    have := lofR_bd r k
    split <;> omega
theorem small_let {S A nk : Nat} {cs : List Ch} {l : Letter} (h : ∀ c ∈ cs, ChSm S A c) (hc : ∀ c ∈ cs, c.worth.natAbs < 1000000000) (hb : S + A * cs.length < 1000000000) (hk : ∀ c ∈ cs, c.key < nk) (hn0 : 0 < nk) (hn : nk ≤ 8) (hl : cs.length ≤ 1000) (il : IsLet nk cs l) : Small l := by
  have lb : ∀ n k, lof (cs.take n) k ≤ 1000 := fun n k => by
    have : lof (cs.take n) k ≤ _ := lofR_bd (cs.take n).reverse k
    rw [List.length_reverse, List.length_take] at this
    omega
  cases il with
  | @change n c e =>
    have hn' := (List.getElem?_eq_some_iff.mp e).1
    have hm := List.mem_of_getElem? e
    have := hk c hm
    have := hc c hm
    have := lb n c.key
    exact ⟨by omega, by omega, by omega, by omega, by omega⟩
  | @part n b e h1 h2 h3 =>
    have hlen : (partRows cs n b (e - b)).length = e - b := by simp [partRows]
    refine ⟨by omega, by omega, by rw [hlen]; omega, by rw [hlen]; omega, fun r hr => ?_⟩
    obtain ⟨i, _, rfl⟩ := List.mem_map.mp hr
    have := wof_bd (n := n) (k := b + i) h
    have := lb n (b + i)
    exact ⟨by show -1000000000 < wof (cs.take n) (b + i); omega, by show wof (cs.take n) (b + i) < 1000000000; omega, by show lof (cs.take n) (b + i) < 1000000000; omega⟩
  | @beat n h1 =>
    refine ⟨by omega, by simp; omega, by simp; omega, fun k hk => ?_⟩
    obtain ⟨i, _, rfl⟩ := List.mem_map.mp hk
    have := lb n i
    omega
/-! lengths and signs of texts -/
theorem joinL_len : ∀ (ps : List (List Nat)), (joinL [32] ps).length ≤ (ps.map List.length).sum + ps.length
  | [] => by simp [joinL]
  | [p] => by simp [joinL]
  | p :: q :: r => by
    have ih := joinL_len (q :: r)
    show (p ++ ([32] ++ joinL [32] (q :: r))).length ≤ _
    rw [List.length_append, List.length_append]
    simp only [List.map_cons, List.sum_cons, List.length_cons, List.length_nil] at ih ⊢
    omega
theorem joined_len {ws : List Str} (h : ∀ w ∈ ws, w.length ≤ 10) : (Txt.join " " ws).length ≤ 11 * ws.length := by
  have e : tl (" " : Str) = [32] := by decide +kernel
  have q := joinL_len (ws.map tl)
  rw [TL.len_tl, TL.join_eq, TL.tl_join, e]
  have : ((ws.map tl).map List.length).sum ≤ 10 * ws.length := by
    clear q
    induction ws with
    | nil => simp
    | cons y ys ih =>
      have h1 := h y List.mem_cons_self
      have h2 := ih fun w hw => h w (List.mem_cons_of_mem _ hw)
      rw [TL.len_tl] at h1
      simp only [List.map_cons, List.sum_cons, List.length_cons]
      omega
  rw [List.length_map] at q
  omega
theorem strOk_tl {x : Str} (h : ∀ c ∈ tl x, c < 1000000) : PyData.strOk x = true := by
  unfold PyData.strOk
  rw [← Array.all_toList, List.all_eq_true]
  intro c hc
  have := h c hc
  exact decide_eq_true (by omega)
theorem nS_signs (i : Int) : ∀ c ∈ tl (nS i), c < 128 := by
  intro c hc
  by_cases h : 0 ≤ i
  · rw [tl_pos h] at hc
    have := TL.numL_digits _ c hc
    omega
  · rw [tl_neg (by omega)] at hc
    rcases List.mem_cons.mp hc with rfl | hc
    · decide
    · have := TL.numL_digits _ c hc
      omega
theorem words_ok {l : Letter} (h : Small l) : ∀ w ∈ wordsL l, w.length ≤ 10 ∧ ∀ c ∈ tl w, c < 128 := by
  intro w hw
  refine ⟨wordsL_small h w hw, ?_⟩
  have kc : ∀ c ∈ tl "change", c < 128 := by decide +kernel
  have kp : ∀ c ∈ tl "part", c < 128 := by decide +kernel
  have kb : ∀ c ∈ tl "beat", c < 128 := by decide +kernel
  have kw : ∀ b, ∀ c ∈ tl (wd b), c < 128 := fun b => by cases b <;> decide +kernel
  cases l with
  | change n c a =>
    simp only [wordsL, List.mem_cons, List.not_mem_nil, or_false] at hw
    rcases hw with rfl | rfl | rfl | rfl | rfl | rfl
    · exact kc
    · exact nS_signs _
    · exact nS_signs _
    · exact kw _
    · exact nS_signs _
    · exact nS_signs _
  | part n b rows =>
    simp only [wordsL, List.mem_cons] at hw
    rcases hw with rfl | rfl | rfl | hw
    · exact kp
    · exact nS_signs _
    · exact nS_signs _
    · obtain ⟨z, _, rfl⟩ := List.mem_map.mp hw
      exact nS_signs _
  | beat n ls =>
    simp only [wordsL, List.mem_cons] at hw
    rcases hw with rfl | rfl | hw
    · exact kb
    · exact nS_signs _
    · obtain ⟨z, _, rfl⟩ := List.mem_map.mp hw
      exact nS_signs _
theorem WdOk.of {w : Str} (h : w.length ≤ 10 ∧ ∀ c ∈ tl w, c < 128) : WdOk w := ⟨by omega, strOk_tl fun c hc => by have := h.2 c hc; omega⟩
end Cu

namespace Cu
open PySem PySem.Spec PyProof.Rows L2
section
variable {X : Cx} {x n : Str} {c : Value} {i : Nat} {body suite : List Stmt} {b₀ : Stmt} {np pos pos' : Pos} {Wout : WX}
/-- try .. except x as n: the readings may name what the body's and the suite's own contexts hold -/
theorem ps_tryT {tt : WX → List (Addr × Obj) → (Value → Shared → Prop) → TS} {ts : Addr → Obj → Value → Option Addr → List (Addr × Obj) → TS}
    (hs : X.stack = X.env :: X.outer) (hf : X.env.frame = some X.env.locals) (hN : X.N.Nodup) (hi : X.N[i]? = some n) (hln : X.env.kindOf n = some .local) (hc : Names X x c) (tk : Takes X Wout)
    (hb : ∀ (W : WX) (pn : List (Addr × Obj)) (xe : Value → Shared → Prop), Takes (X.tr pn xe) W → PassesOwn (model X.prog X.w) X.A X.env xe → PSs (X.tr pn xe) body (tt W pn xe))
    (hsu : ∀ (a : Addr) (oe : Obj) (cls : Value) (d : Option Addr) (pn : List (Addr × Obj)), Zc cls d oe → (∃ vs, oe.data = .fields vs) → PSs (X.suite a ((a, oe) :: pn)) (b₀ :: suite) (ts a oe cls d pn)) :
    PS X (.Try body [.ExceptHandler (some (.Name x np)) (some n) (b₀ :: suite) pos'] [] [] pos)
      (fun D σ H => ∀ pn xe, tt (wAs X.K c i (fun a cls d D σ H => ∀ oe pn, ts a oe cls d pn D σ H) Wout D) pn xe D σ H) :=
  ps_try_as (tb := fun W D σ H => ∀ pn xe, tt W pn xe D σ H) (ts := fun a cls d D σ H => ∀ oe pn, ts a oe cls d pn D σ H) hs hf hN hi hln hc tk
    (fun W pn xe tk po => ⟨fun pins s σ H D I h => (hb W pn xe tk po).run pins s σ H D I (h pn xe)⟩)
    (fun a oe cls d pn hz hf => ⟨fun pins s σ H D I h => (hsu a oe cls d pn hz hf).run pins s σ H D I (h oe pn)⟩)
end
end Cu

namespace Cu
open PySem PySem.Spec PyProof.Rows L2
open PySem.W (findIn subIn hasDictIn specialIn takesIn mroIn InstAt looks_findIn looks_find looks_subIn any_some clsIn check_slot class_get KitX findObj)
section
variable {prog : Program} {w : World} {A : Around} {E : Value → Shared → Prop} {s : Shared} {K : PySem.W.Frag} {x D : Addr} {ox : Obj} {od : Option Obj}
/-- a data attribute of the class is found whatever the dict holds -/
theorem find_data {C : Addr} {name : Str} {a g : Value} (hc : (clsIn K C).isSome = true) (ha : findIn K (.ref C) name = some (some a)) (hg : specialIn K a "__get__" = some (some g)) (ht : takesIn K a = some true) : findObj K C od name = some (.bind g a) := by
  obtain ⟨cd, hc⟩ := Option.isSome_iff_exists.mp hc
  unfold findObj
  rw [hc, Option.bind_some, ha, Option.bind_some]
  simp [hg, ht]
/-- e.__class__, e an exception of an own class, with or without a dict -/
theorem exc_class (T : ExcC K D) {Q : Option Value → Shared → Prop} (X : K.In s.heap) (I : InstAt s.heap x ox D od) (h : Q (some (.ref D)) { s with toks := s.toks + 1 }) : wpAny (model prog w) A (getAttr? (.ref x) "__class__") Q E s := by
  have hf : findObj K D od "__class__" = some (.bind (.builtin "getset_descriptor.__get__") (.builtin "object.__class__")) := find_data (by obtain ⟨cd, hc, _⟩ := any_some T.hd; rw [hc]; rfl) T.ha T.hn T.ht
  obtain ⟨hp, g, d, t, os⟩ := s
  have L0 := I.type (M := model prog w)
  have L1 := looks_findIn (M := model prog w) X T.hg
  have L2 := looks_findIn (M := model prog w) X T.hk
  have L3 := looks_find (M := model prog w) X I hf
  have sub : PySem.W.Looks (model prog w) hp (isInstance (.ref x) (.type "BaseException")) true := L0.andThen (looks_subIn X T.hs)
  have n1 : (false && onTheHeap (Value.builtin "BaseException.__getattribute__")) = false := rfl
  have n2 : (Value.builtin "BaseException.__getattribute__" == Value.builtin "object.__getattribute__") = false := by decide +kernel
  have n3 : (onTheHeap (Value.ref D) && Value.builtin "BaseException.__getattribute__" == Value.builtin "object.__getattribute__") = false := by rw [n2]; rfl
  unfold getAttr? getAttrBy? getAttrBy
  refine wpAny_bind (wpAny_mkText (wpAny_bind (wpAny_attempt (wpAny_holding (wpAny_bind (L0.at (wpAny_bind (L1.at ?_))))))))
  show wpAny _ _ (if (onTheHeap (Value.ref D) && Value.builtin "BaseException.__getattribute__" == Value.builtin "object.__getattribute__") = true then _ else _) _ _ _
  rw [n3, if_neg Bool.false_ne_true]
  unfold getAttrByItsOwn hookBefore
  refine wpAny_bind ?_
  rw [if_pos (show onTheHeap (Value.ref D) = true from rfl)]
  refine L2.at ?_
  refine wpAny_bind (wpAny_attempt (wpAny_holding ?_))
  unfold callGetattribute
  rw [n1, if_neg Bool.false_ne_true]
  unfold boundAndCalled
  rw [PySem.F.excAttr_ValueError.ga.bind (.ref x)]
  refine wpAny_bind (wpAny_pure ?_)
  show wpAny _ _ (call (.builtin "BaseException.__getattribute__") [.ref x, .str "__class__" t]) _ _ _
  refine wpAny_call (codeAny_call_builtin PySem.F.excAttr_ValueError.ga.plain PySem.F.entry_bexc_ga ?_)
  refine @check_slot (model prog w) _ _ ⟨hp, g, d, t + 1, os⟩ "BaseException.__getattribute__" "BaseException" "__getattribute__" (.ref x) [.str "__class__" t] [] _ (by decide +kernel) (by decide +kernel) sub (PySem.F.args_bexc_ga (.ref x) (.str "__class__" t)) ?_
  unfold Builtin.«object.__getattribute__»
  refine wpAny_bind (wpAny_of_eq (a := ((Value.ref x : Value), [Value.str "__class__" t])) (by first | rfl | (simp only [slotArgs]; rfl)) ?_)
  refine wpAny_bind (wpAny_pure (wpAny_bind (L0.at (wpAny_bind (L3.at ?_)))))
  show wpAny _ _ (holding [Value.builtin "object.__class__"] (call (.builtin "getset_descriptor.__get__") [.builtin "object.__class__", .ref x, .ref D]) >>= ret) _ _ _
  refine wpAny_bind (wpAny_holding (wpAny_call (class_get (s := ⟨hp, g, d, t + 1, os⟩) X I T.hm ?_)))
  refine wpAny_pure ?_
  show wpAny _ _ (handedOut (.ref D)) _ _ _
  rw [PySem.W.handedOut_of (v := .ref D) rfl]
  first
    | exact wpAny_pure (wpAny_pure h)
    | exact wpAny_pure h
    | exact wpAny_pure (wpAny_bind (wpAny_pure (wpAny_pure h)))
theorem kitx_exc (T : ExcC K D) : KitX K (.ref x) (.ref D) (fun h => ∃ od, InstAt h x ox D od) where
  ty := fun _ _ _ ⟨_, I⟩ => I.type
  it := fun _ _ X _ => by
    obtain ⟨cdD, hcD, _⟩ := any_some T.hd
    unfold PySem.W.clsIn at hcD
    split at hcD
    · rename_i c' d' cd' sl' ho
      intro A' Q' E' s' k q
      unfold isType loadHead
      exact wpAny_bind (wpAny_loadPart (k _ _ (X _ _ ho)) (wpAny_pure q))
    · cases hcD
  ne := fun h tp dd its n sl X htp => by
    obtain ⟨cdD, hcD, _⟩ := any_some T.hd
    refine Bool.eq_false_iff.mpr fun q => ?_
    have e : D = tp := Value.ref.inj (beq_iff_eq.mp q)
    subst e
    unfold PySem.W.clsIn at hcD
    split at hcD
    · rename_i c' d' cd' sl' ho
      have z := (X _ _ ho).symm.trans htp
      cases z
    · cases hcD
  ca := fun X ⟨_, I⟩ k => exc_class T X I k
end
/-- isinstance(e, c), e the exception that the suite holds (its class D, its dict d) -/
def rIsX (K : PySem.W.Frag) (D a : Addr) (d : Option Addr) : List V → Hp → VK → Prop := fun xs H Q => ∃ (c : V) (cv : Value) (b : Bool), xs = [.ref a, c] ∧ (∀ u, RelV c u → u = cv) ∧ PySem.W.kitOne K (.ref D) cv = some b ∧ (∀ dd, d = some dd → ∃ fs, H dd = some (.xd fs)) ∧ Q (.bl b) H
theorem call_isX {X : Cx} {a : Addr} {oe : Obj} {cls : Value} {d : Option Addr} {pn : List (Addr × Obj)} (hz : Zc cls d oe) (hf : ∃ vs, oe.data = .fields vs) :
    CallR (X.suite a ((a, oe) :: pn)) (.builtin "isinstance") (fun xs H Q => ∃ D, cls = .ref D ∧ ExcC X.K D ∧ rIsX X.K D a d xs H Q) := by
  intro pins s σ H xs us Q I r h
  obtain ⟨D, ec, C, c, cv, b, rfl, hcv, e, hd, q⟩ := h
  subst ec
  cases r with
  | cons rx rr =>
    cases rr with
    | cons rt rr =>
      cases rr
      cases rx
      have ec := hcv _ rt
      subst ec
      obtain ⟨hget, _⟩ := I.pin (a, oe) (List.mem_append.mpr (.inl List.mem_cons_self))
      obtain ⟨vs, hv⟩ := hf
      have J : ∃ od, InstAt s.heap a oe D od := by
        obtain ⟨oc, od, oda, osl⟩ := oe
        obtain ⟨h1, h2⟩ := hz
        dsimp only at h1 h2 hv
        subst h1 h2 hv
        cases od with
        | none => exact ⟨none, hget, rfl, rfl, trivial⟩
        | some dd =>
          obtain ⟨fs, hfs⟩ := hd dd rfl
          have hx : ObjOk X.prog X.w H s.heap dd (.xd fs) := I.hok dd _ hfs
          obtain ⟨mA, hns, _⟩ := hx
          obtain ⟨o, ho, _⟩ := lookIn_ns hns
          exact ⟨some o, hget, rfl, rfl, ho⟩
      exact PySem.W.kia_one (kitx_exc (ox := oe) C) I.kIn J e (fun z => nomatch z) fun tk => ⟨.bl b, H, I.kept (t' := tk) fun _ _ z => z, rfl, q⟩
end Cu

namespace Cu
open PySem PySem.Spec PyProof.Rows L2
open LamX (TabS Tabs ExtN CodeO TabB)
/-! a lambda's code table, owned -/
/-- what is known of the table's entries -/
def TabI (H : Hp) (q : Str) (ps : Array Value) : Prop := PySem.TriplesOk ps.toList ∧ ∀ (pos : Pos) (cv : Value), codeAmong pos ps.toList = some cv → ∃ c, cv = .ref c ∧ H c = some (CodeO c q)
theorem codeO_imm (c : Addr) (q : Str) : Imm (CodeO c q) := by
  unfold CodeO
  exact trivial
theorem TabI.mono {H H' : Hp} {q : Str} {ps : Array Value} (t : TabI H q ps) (m : Mono H H') : TabI H' q ps :=
  ⟨t.1, fun pos cv h => let ⟨c, e1, e2⟩ := t.2 pos cv h; ⟨c, e1, m _ _ e2 (codeO_imm c q)⟩⟩
theorem TabI.nil (H : Hp) (q : Str) : TabI H q #[] := ⟨trivial, fun pos cv h => by simp [codeAmong] at h⟩
theorem ntbl {ps : Array Value} : ¬ Imm (.tbl ps) := fun h => h
theorem ExtN.mono {H H' : Hp} (e : ExtN H H') : Mono H H' := fun b o h i => e b o h fun ps z => by
  rw [z] at i
  exact i
/-- the table, and behind the making of a lambda -/
theorem tabs_of {H : Hp} {P : Addr} {q : Str} {ps : Array Value} (h : H P = some (.tbl ps)) (t : TabI H q ps) : Tabs [(P, q)] H := fun p hp => by
  rw [List.mem_singleton.mp hp]
  exact ⟨ps, h, t.1, t.2⟩
theorem has_lam {H H1 : Hp} {P : Addr} {q : Str} {ps : Array Value} {l : Lg} (h : Has H ((P, .tbl ps) :: l)) (nt : ∀ p ∈ l, ∀ qs, p.2 ≠ .tbl qs) (e : ExtN H H1) (t : Tabs [(P, q)] H1) : ∃ ps', H1 P = some (.tbl ps') ∧ Has H1 ((P, .tbl ps') :: l) ∧ TabI H1 q ps' := by
  obtain ⟨ps', h1, h2, h3⟩ := t (P, q) List.mem_cons_self
  refine ⟨ps', h1, ⟨h.nd, fun p hp => ?_⟩, h2, h3⟩
  rcases List.mem_cons.mp hp with rfl | hp
  · exact ⟨h1, ntbl⟩
  · have := h.at_ p (List.mem_cons_of_mem _ hp)
    exact ⟨e _ _ this.1 (nt p hp), this.2⟩
theorem Dice.lam {K : PySem.W.Frag} {H H1 : Hp} {a P : Addr} {q : Str} {ps : Array Value} {R : Lg} (d : Dice K H a ((P, .tbl ps) :: R)) (nt : ∀ p ∈ R, ∀ qs, p.2 ≠ .tbl qs) (e : ExtN H H1) (t : Tabs [(P, q)] H1) : ∃ ps', Dice K H1 a ((P, .tbl ps') :: R) ∧ TabI H1 q ps' := by
  obtain ⟨c, ns, i, m, r, h1, h2, h3, h⟩ := d
  obtain ⟨ps', _, hb, hc⟩ := has_lam h.swap2 (fun p hp qs => by
    rcases List.mem_cons.mp hp with rfl | hp
    · exact fun z => nomatch z
    · exact nt p hp qs) e t
  exact ⟨ps', ⟨c, ns, i, m, r, h1, h2, h3.mono (ExtN.mono e), hb.swap2⟩, hc⟩
/-- a def whose code object is known -/
theorem Fun.okC {P : Program} {w : World} {K : PySem.W.Frag} {mg : Str → Option Value} {base : Heap} {x qual : Str} {st : Stmt} {f c : Addr} {fd : FuncData} {N ps : List Str} {k : Nat} {sp : Sp} (F : Fun K x qual st f fd) (hc : fd.code = .ref c) (S : FnScope N ps (defScope st)) (len : ∀ vs H Q E, sp vs H Q E → vs.length = ps.length)
    (hbody : ∀ (A : Around) (outer : List Env) (s : Shared) (H : Hp) (vs : List V) (Q : VK) (E : XK), Room k (A.deeper (envOfC qual (defScope st) s.heap.objs.size f (.ref c))) → sp vs H Q E →
      ∃ t, PSs (cxOf CX0 P w K mg base N qual (defScope st) f (.ref c) A outer s H E).nox (defBody st) t ∧ t { nx := fun _ H' => Q .non H', rt := Q } (start N vs) H) : FnOk P w K mg base CX0 (k + 1) f fd ps sp := by
  obtain ⟨oc, od, kV, doc, pm, an, cdv, ct, osl, rfl, lk, hcd⟩ := F.ex
  have e : cdv = .ref c := hc
  subst e
  refine fn_of lk hcd S len fun A outer s H vs Q E hr hsp => ?_
  obtain ⟨t, h, q⟩ := hbody A outer s H vs Q E hr hsp
  exact ⟨t, h.nox, q⟩
/-- a law that makes lambdas: the script's list, the table of its code -/
def spLawT (K : PySem.W.Frag) (P : Addr) : Sp := fun vs H Q _ => vs.length = 1 ∧ ∃ (a : Addr) (ns : List Int), vs = [.ref a] ∧ ns.length ≤ 63 ∧ SqL K H a (ns.map V.int) ∧ H P = some (.tbl #[]) ∧ ∀ H', Q (.bl true) H'
/-- the list is frozen already, or is from now on -/
theorem sq_fz {K : PySem.W.Frag} {H : Hp} {a : Addr} {xs : List V} (h : SqL K H a xs) : FzL K H a xs ∨ H a = some (.lst xs) := by
  rcases h with (h | ⟨o, h⟩) | h
  · exact .inr h
  · exact .inl (FzL.of h)
  · exact .inl fun H' _ => .inr h
end Cu

namespace Cu
open PySem PySem.Spec PyProof.Rows L2
open LamX (GivesTo CodeO)
/-! _law_told: what is told; the word of a refusal -/
theorem flat_count {ys : List V} {its : List Value} (y : V) (r : Vals ys its) : ys.all flatV = true → its.countP (eqU y) = ys.countP fun z => eqV z y := by
  induction r with
  | nil => intro _; rfl
  | @cons x u xs us rx rs ih =>
    intro h
    rw [List.all_cons, Bool.and_eq_true] at h
    rw [List.countP_cons, List.countP_cons, ih h.2, eqU_of rx h.1]
def rCntF (K : PySem.W.Frag) : V → List V → Hp → VK → Prop := fun x xs H Q => ∃ (p : Addr) (ys : List V) (y : V), x = .ref p ∧ xs = [y] ∧ SqL K H p ys ∧ flatV y = true ∧ ys.all flatV = true ∧ Q (.int ((ys.countP fun z => eqV z y : Nat) : Int)) H
theorem mt_lcountF {X : Cx} : MtR X "list.count" (rCntF X.K) := by
  intro pins s σ H x xs v us Q I rx rxs h
  obtain ⟨p, ys, y, rfl, rfl, hs, fy, fys, q⟩ := h
  cases rx
  obtain ⟨u, rfl, ru⟩ := rxs.one
  obtain ⟨its, rv, ⟨⟨cls, dd, data, sl⟩, n, ho, hc, hdn, hd⟩, hlen⟩ := I.list hs
  simp only at hc hd
  subst hc hd
  refine call_meets PySem.F.slot_list_count ⟨_, ho, rfl⟩ PySem.F.entry_list_count (PySem.F.args_list_count_2 _ _)
    (SeqAt.list_countAt p its.toArray n dd sl u (eqU y)) ⟨ho, fun u' hu' => mem_eqAt ru fy rv fys u' (by simpa using hu'), ?_⟩
  have ec : its.toArray.toList.countP (eqU y) = ys.countP fun z => eqV z y := by
    rw [List.toList_toArray]
    exact flat_count y rv fys
  refine ⟨.int ((ys.countP fun z => eqV z y : Nat) : Int), H, I.tok _, ⟨s.toks, ?_⟩, q⟩
  show Value.int ((its.toArray.toList.countP (eqU y) : Nat) : Int) s.toks = Value.int ((ys.countP fun z => eqV z y : Nat) : Int) s.toks
  rw [ec]
/-- the classes of what is refused, by name -/
structure Kx (mg : Str → Option Value) where
  cCatchError : Addr
  cBadBoard : Addr
  cNoKey : Addr
  cBadChange : Addr
  cBadPart : Addr
  cBadKnown : Addr
  cBadPrices : Addr
  cBadText : Addr
  gCatchError : mg "CatchError" = some (.ref cCatchError)
  gBadBoard : mg "BadBoard" = some (.ref cBadBoard)
  gNoKey : mg "NoKey" = some (.ref cNoKey)
  gBadChange : mg "BadChange" = some (.ref cBadChange)
  gBadPart : mg "BadPart" = some (.ref cBadPart)
  gBadKnown : mg "BadKnown" = some (.ref cBadKnown)
  gBadPrices : mg "BadPrices" = some (.ref cBadPrices)
  gBadText : mg "BadText" = some (.ref cBadText)
/-- D is the class number i -/
structure XOf (K : PySem.W.Frag) {mg : Str → Option Value} (Gs : Kx mg) (D : Addr) (i : Nat) : Prop where
  ec : ExcC K D
  em : PySem.W.exmOne K (.ref D) (.ref Gs.cCatchError) = some true
  i0 : PySem.W.kitOne K (.ref D) (.ref Gs.cBadBoard) = some (decide (i = 0))
  i1 : PySem.W.kitOne K (.ref D) (.ref Gs.cNoKey) = some (decide (i = 1))
  i2 : PySem.W.kitOne K (.ref D) (.ref Gs.cBadChange) = some (decide (i = 2))
  i3 : PySem.W.kitOne K (.ref D) (.ref Gs.cBadPart) = some (decide (i = 3))
  i4 : PySem.W.kitOne K (.ref D) (.ref Gs.cBadKnown) = some (decide (i = 4))
  i5 : PySem.W.kitOne K (.ref D) (.ref Gs.cBadPrices) = some (decide (i = 5))
  i6 : PySem.W.kitOne K (.ref D) (.ref Gs.cBadText) = some (decide (i = 6))
  iv : PySem.W.kitOne K (.ref D) (.type "ValueError") = some true
  d4 : i = 4 → D = Gs.cBadKnown
  d6 : i = 6 → D = Gs.cBadText
def kindW : Nat → Str
  | 0 => "board"
  | 1 => "key"
  | 2 => "change"
  | 3 => "part"
  | 4 => "known"
  | 5 => "prices"
  | _ => "text"
/-- what is told of a refusal: its word, the number that two of them hold -/
def toldD (i : Nat) (n : Int) : PyData := .tuple (.str (kindW i) :: if i = 4 ∨ i = 6 then [.int n] else [])
/-- what the refusal holds -/
def HoldsX (H : Hp) (d : Option Addr) (i : Nat) (n : Int) : Prop :=
  (∀ dd, d = some dd → ∃ fs, H dd = some (.xd fs)) ∧ (i = 4 → ∃ dd, d = some dd ∧ H dd = some (.xd [("key", .int n)])) ∧ (i = 6 → ∃ dd, d = some dd ∧ H dd = some (.xd [("place", .int n)]))
/-- what _law_told makes of the work's reading -/
def TTx (K : PySem.W.Frag) {mg : Str → Option Value} (Gs : Kx mg) : (XK → Hp → VK → Prop) → Hp → VK → Prop := fun tl H Q =>
  tl (fun cls d H' => ∃ (i : Nat) (D : Addr) (n : Int), i < 7 ∧ cls = .ref D ∧ XOf K Gs D i ∧ HoldsX H' d i n ∧ ∀ v H2, Grow H' H2 → Rp K H2 (toldD i n) v → Q v H2) H Q
/-- the work is called, whatever it may let out -/
theorem takesLen {X : Cx} {W : WX} (tk : Takes X W) : Takes X (fun cls d σ H => σ.length = X.N.length → W cls d σ H) := fun u s' ⟨a, B, sI, pins, σ, H, cls, d, e, I, nb, up, sky, na, os, ag, w⟩ =>
  tk u s' ⟨a, B, sI, pins, σ, H, cls, d, e, I, nb, up, sky, na, os, ag, w I.len⟩
theorem pe_act1 {X : Cx} {a : Str} {W : WX} {n : Nat} {t : XK → TE} {p1 p2 : Pos} (act : ∀ (E : XK) (q1 q2 : Pos), (∀ cls d σ' H', E cls d H' → σ'.length = n → W cls d σ' H') → PE X (.Call (.Name a q1) [] [] q2) (t E)) :
    PE X (.Call (.Name a p1) [] [] p2) (fun σ H Q => ∃ E : XK, (∀ cls d σ' H', E cls d H' → σ'.length = n → W cls d σ' H') ∧ t E σ H Q) :=
  ⟨fun pins s σ H Q I ⟨E, hW, h⟩ => (act E p1 p2 hW).run pins s σ H Q I h⟩
abbrev s_told : Stmt := (top 29)
theorem sc_told : FnScope ["_law_work", "e", "_law_kinds", "_law_words_here", "_law_word"] ["_law_work"] (defScope s_told) := ⟨rfl, rfl, rfl, by decide +kernel, rfl, by decide +kernel, by decide +kernel⟩

theorem told_gives {X : Cx} {g : Addr} {cdg : Value} {q : Str} (Bm : Blt X.mg) (nValueError : X.mg "ValueError" = none) (Gs : Kx X.mg) (XBadKnown : Xc X.K Gs.cBadKnown "key") (XBadText : Xc X.K Gs.cBadText "place") :
    GivesTo X ["_law_work", "e", "_law_kinds", "_law_words_here", "_law_word"] "_law_told" (defScope s_told) g cdg (defBody s_told) "_law_work" q (TTx X.K Gs) := by
  intro f c' s H Q tl act hc h
  refine ⟨_, (pss_one (ps_tryT (i := 1) rfl rfl sc_told.nd rfl rfl ⟨rfl, by decide, .inl Gs.gCatchError⟩ takes0 (fun W pn xe tk po => by exact (pss_one (ps_ret (pe_act1 (n := 5) (fun E q1 q2 hW => act _ pn xe E q1 q2 (takesLen tk) hW)))))
        (fun a oe cls d pn hz hf => by exact (pss_cons (ps_set (i := 2) sc_told.nd rfl (Or.inl rfl) (pe_lst (pa_cons (pe_callB (call_isX hz hf) rfl Bm.isinstance (by decide +kernel) (pa_cons (pv 1) (pa_cons (pe_glob (v := .ref Gs.cBadBoard) rfl Gs.gBadBoard rfl) pa_nil))) (pa_cons (pe_callB (call_isX hz hf) rfl Bm.isinstance (by decide +kernel) (pa_cons (pv 1) (pa_cons (pe_glob (v := .ref Gs.cNoKey) rfl Gs.gNoKey rfl) pa_nil))) (pa_cons (pe_callB (call_isX hz hf) rfl Bm.isinstance (by decide +kernel) (pa_cons (pv 1) (pa_cons (pe_glob (v := .ref Gs.cBadChange) rfl Gs.gBadChange rfl) pa_nil))) (pa_cons (pe_callB (call_isX hz hf) rfl Bm.isinstance (by decide +kernel) (pa_cons (pv 1) (pa_cons (pe_glob (v := .ref Gs.cBadPart) rfl Gs.gBadPart rfl) pa_nil))) pa_nil))))))
        (pss_cons (ps_set (i := 2) sc_told.nd rfl (Or.inl rfl) (pe_op op_cat (pv 2) (pe_lst (pa_cons (pe_callB (call_isX hz hf) rfl Bm.isinstance (by decide +kernel) (pa_cons (pv 1) (pa_cons (pe_glob (v := .ref Gs.cBadKnown) rfl Gs.gBadKnown rfl) pa_nil))) (pa_cons (pe_callB (call_isX hz hf) rfl Bm.isinstance (by decide +kernel) (pa_cons (pv 1) (pa_cons (pe_glob (v := .ref Gs.cBadPrices) rfl Gs.gBadPrices rfl) pa_nil))) (pa_cons (pe_callB (call_isX hz hf) rfl Bm.isinstance (by decide +kernel) (pa_cons (pv 1) (pa_cons (pe_glob (v := .ref Gs.cBadText) rfl Gs.gBadText rfl) pa_nil))) pa_nil))))))
        (pss_cons (ps_set (i := 3) sc_told.nd rfl (Or.inl rfl) (pe_lst (pa_cons pe_str (pa_cons pe_str (pa_cons pe_str (pa_cons pe_str (pa_cons pe_str (pa_cons pe_str (pa_cons pe_str pa_nil)))))))))
        (pss_cons (ps_if (PW.pt (pw_or (pt_cmpR op_ne (pe_bm PySem.F.plainAttrs_list PySem.F.slot_list_count PySem.F.type_list_count mt_lcountF (pv 2) (pa_cons pe_bl pa_nil)) pe_int (nomark _)) (pw_or1 (pt_not (pt_val (pe_callB (call_isX hz hf) rfl Bm.isinstance (by decide +kernel) (pa_cons (pv 1) (pa_cons (pe_bltn (v := .ty "ValueError") (u := .type "ValueError") rfl nValueError (by decide +kernel) rfl) pa_nil))))))))
          (pss_one (ps_ret (pe_tup (pa_cons pe_str pa_nil))))
          pss_nil)
        (pss_cons (ps_set (i := 4) sc_told.nd rfl (Or.inl rfl) (pe_ix ix_list (pv 3) (pe_bm PySem.F.plainAttrs_list PySem.F.slot_list_index PySem.F.type_list_index mt_index (pv 2) (pa_cons pe_bl pa_nil)) (fun _ _ => rfl)))
        (pss_cons (ps_if (pt_cmpR op_eq (pv 4) pe_str (nomark _))
          (pss_one (ps_ret (pe_tup (pa_cons (pv 4) (pa_cons (pe_xf XBadKnown.xf XBadKnown.no hz hf (pv 1)) pa_nil)))))
          pss_nil)
        (pss_one (ps_ret (pe_ifExp (pt_cmpR op_eq (pv 4) pe_str (nomark _)) (pe_tup (pa_cons (pv 4) (pa_cons (pe_xf XBadText.xf XBadText.no hz hf (pv 1)) pa_nil))) (pe_tup (pa_cons (pv 4) pa_nil)))))))))))))), ?_⟩
  intro pn xe
  refine ⟨_, ?_, rfl, hc, h⟩
  rintro cls d σ' H' ⟨i, D, n, hi, rfl, xo, ⟨hx, h4, h6⟩, k⟩ hlen
  refine ⟨true, xo.em, fun _ ea hea oe pn2 => ?_, fun z => nomatch z⟩
  obtain ⟨w0, w1, w2, w3, w4, rfl⟩ : ∃ w0 w1 w2 w3 w4, σ' = [w0, w1, w2, w3, w4] := by
    match σ', hlen with
    | [a, b, c, d, e], _ => exact ⟨a, b, c, d, e, rfl⟩
  have rf : ∀ c : Addr, ∀ u, RelV (.ref c) u → u = Value.ref c := fun c u r => r
  have hv : ∀ {H2 : Hp}, (∀ dd, d = some dd → H2 dd = H' dd) → ∀ dd, d = some dd → ∃ fs, H2 dd = some (.xd fs) := fun e dd hd => by
    rw [e dd hd]
    exact hx dd hd
  have keep : ∀ {H2 : Hp} {p : Addr} {o : HO}, (∀ dd, d = some dd → H2 dd = H' dd) → H2 p = none → ∀ dd, d = some dd → upd H2 p o dd = H' dd := fun {H2 p o} e hp dd hd => by
    have : dd ≠ p := fun z => by
      obtain ⟨fs, hfs⟩ := hx dd hd
      rw [← z, e dd hd, hfs] at hp
      cases hp
    rw [upd_ne this]
    exact e dd hd
  have e0 : ∀ dd, d = some dd → H' dd = H' dd := fun _ _ => rfl
  refine ⟨_, rfl, D, rfl, xo.ec, _, _, _, rfl, rf _, xo.i0, hx, ?_⟩
  refine ⟨_, rfl, D, rfl, xo.ec, _, _, _, rfl, rf _, xo.i1, hx, ?_⟩
  refine ⟨_, rfl, D, rfl, xo.ec, _, _, _, rfl, rf _, xo.i2, hx, ?_⟩
  refine ⟨_, rfl, D, rfl, xo.ec, _, _, _, rfl, rf _, xo.i3, hx, ⟨(by show 4 ≤ sizeLine; decide), fun p hp => ?_⟩⟩
  have e1 := keep (o := .lst [.bl (decide (i = 0)), .bl (decide (i = 1)), .bl (decide (i = 2)), .bl (decide (i = 3))]) e0 hp
  have t1 := (Tr.refl H' []).new (o := .lst [.bl (decide (i = 0)), .bl (decide (i = 1)), .bl (decide (i = 2)), .bl (decide (i = 3))]) hp nl
  refine ⟨_, rfl, _, rfl, D, rfl, xo.ec, _, _, _, rfl, rf _, xo.i4, hv e1, ?_⟩
  refine ⟨_, rfl, D, rfl, xo.ec, _, _, _, rfl, rf _, xo.i5, hv e1, ?_⟩
  refine ⟨_, rfl, D, rfl, xo.ec, _, _, _, rfl, rf _, xo.i6, hv e1, ⟨(by show 3 ≤ sizeLine; decide), fun q2 hq2 => ?_⟩⟩
  have e2 := keep (o := .lst [.bl (decide (i = 4)), .bl (decide (i = 5)), .bl (decide (i = 6))]) e1 hq2
  have t2 := t1.new (o := .lst [.bl (decide (i = 4)), .bl (decide (i = 5)), .bl (decide (i = 6))]) hq2 nl
  refine ⟨p, q2, _, _, rfl, rfl, t2.own.tail.head, t2.own.head, (by show 4 + 3 ≤ sizeLine; decide), fun r hr2 => ?_⟩
  have e3 := keep (o := .lst ([.bl (decide (i = 0)), .bl (decide (i = 1)), .bl (decide (i = 2)), .bl (decide (i = 3))] ++ [.bl (decide (i = 4)), .bl (decide (i = 5)), .bl (decide (i = 6))])) e2 hr2
  have t3 := t2.new (o := .lst ([.bl (decide (i = 0)), .bl (decide (i = 1)), .bl (decide (i = 2)), .bl (decide (i = 3))] ++ [.bl (decide (i = 4)), .bl (decide (i = 5)), .bl (decide (i = 6))])) hr2 nl
  -- the words
  refine ⟨(by show 7 ≤ sizeLine; decide), fun ws hws => ?_⟩
  have e4 := keep (o := .lst [.str "board", .str "key", .str "change", .str "part", .str "known", .str "prices", .str "text"]) e3 hws
  have t4 := t3.new (o := .lst [.str "board", .str "key", .str "change", .str "part", .str "known", .str "prices", .str "text"]) hws nl
  have hr4 := SqL.of (K := X.K) t4.own.tail.head
  have cnt : (([.bl (decide (i = 0)), .bl (decide (i = 1)), .bl (decide (i = 2)), .bl (decide (i = 3))] ++ [.bl (decide (i = 4)), .bl (decide (i = 5)), .bl (decide (i = 6))] : List V).countP fun z => eqV z (.bl true)) = 1 := by
    rcases (by omega : i = 0 ∨ i = 1 ∨ i = 2 ∨ i = 3 ∨ i = 4 ∨ i = 5 ∨ i = 6) with rfl | rfl | rfl | rfl | rfl | rfl | rfl <;> decide
  refine ⟨_, rfl, .inl ⟨rfl, _, hr4⟩, r, _, _, rfl, rfl, hr4, rfl, rfl, ?_⟩
  rw [cnt]
  refine ⟨rfl, _, rfl, iteM (by decide) ?_⟩
  refine ⟨_, rfl, D, rfl, xo.ec, _, _, _, rfl, (fun u z => z), xo.iv, hv e4, ?_⟩
  refine ⟨_, rfl, iteM (by decide) ?_⟩
  have dm : ∀ i, i < 7 → ∀ m, m < i → ((([.bl (decide (i = 0)), .bl (decide (i = 1)), .bl (decide (i = 2)), .bl (decide (i = 3))] ++ [.bl (decide (i = 4)), .bl (decide (i = 5)), .bl (decide (i = 6))] : List V)[m]?).map fun z => eqV z (.bl true)) = some false := by decide
  have dj : ([.bl (decide (i = 0)), .bl (decide (i = 1)), .bl (decide (i = 2)), .bl (decide (i = 3))] ++ [.bl (decide (i = 4)), .bl (decide (i = 5)), .bl (decide (i = 6))] : List V)[i]? = some (.bl true) := by
    rcases (by omega : i = 0 ∨ i = 1 ∨ i = 2 ∨ i = 3 ∨ i = 4 ∨ i = 5 ∨ i = 6) with rfl | rfl | rfl | rfl | rfl | rfl | rfl <;> rfl
  have dw : atI ([.str "board", .str "key", .str "change", .str "part", .str "known", .str "prices", .str "text"] : List V) (i : Int) = some (.str (kindW i)) := by
    rcases (by omega : i = 0 ∨ i = 1 ∨ i = 2 ∨ i = 3 ∨ i = 4 ∨ i = 5 ∨ i = 6) with rfl | rfl | rfl | rfl | rfl | rfl | rfl <;> rfl
  have k4 : ∀ i, i < 7 → kindW i = "known" → i = 4 := by decide +kernel
  have k6 : ∀ i, i < 7 → kindW i = "text" → i = 6 := by decide +kernel
  refine ⟨_, rfl, _, rfl, .inl ⟨rfl, _, hr4⟩, r, _, _, i, _, rfl, rfl, hr4, rfl, rfl, dj, rfl, fun m z' hm hz => ?_, ?_⟩
  · have := dm i hi m hm
    rw [hz] at this
    exact Option.some.inj this
  refine ⟨ws, _, _, _, rfl, rfl, SqL.of t4.own.head, dw, ?_⟩
  have gr : ∀ {t : Addr} {o : HO}, upd (upd (upd (upd H' p (.lst [.bl (decide (i = 0)), .bl (decide (i = 1)), .bl (decide (i = 2)), .bl (decide (i = 3))])) q2 (.lst [.bl (decide (i = 4)), .bl (decide (i = 5)), .bl (decide (i = 6))])) r (.lst ([.bl (decide (i = 0)), .bl (decide (i = 1)), .bl (decide (i = 2)), .bl (decide (i = 3))] ++ [.bl (decide (i = 4)), .bl (decide (i = 5)), .bl (decide (i = 6))]))) ws (.lst [.str "board", .str "key", .str "change", .str "part", .str "known", .str "prices", .str "text"]) t = none →
      Grow H' (upd (upd (upd (upd (upd H' p (.lst [.bl (decide (i = 0)), .bl (decide (i = 1)), .bl (decide (i = 2)), .bl (decide (i = 3))])) q2 (.lst [.bl (decide (i = 4)), .bl (decide (i = 5)), .bl (decide (i = 6))])) r (.lst ([.bl (decide (i = 0)), .bl (decide (i = 1)), .bl (decide (i = 2)), .bl (decide (i = 3))] ++ [.bl (decide (i = 4)), .bl (decide (i = 5)), .bl (decide (i = 6))]))) ws (.lst [.str "board", .str "key", .str "change", .str "part", .str "known", .str "prices", .str "text"])) t o) :=
    fun ht => (t4.old ht).sub (List.nil_sublist _)
  refine ⟨_, rfl, rfl, _, rfl, ite2 (fun c4 => ?_) fun c4 => ?_⟩
  · have i4 := k4 i hi (V.str.inj (of_decide_eq_true c4))
    subst i4
    obtain ⟨dd, rfl, hdd⟩ := h4 rfl
    have eD := xo.d4 rfl
    subst eD
    refine ⟨_, rfl, _, rfl, rfl, rfl, dd, _, _, rfl, (e4 dd rfl).trans hdd, rfl, ⟨(by show 2 ≤ sizeLine; decide), fun t ht => ?_⟩⟩
    exact k _ _ (gr ht) (.tup upd_same (.cons .str (.cons .int .nil)))
  refine ⟨_, rfl, rfl, _, rfl, ite2 (fun c6 => ?_) fun c6 => ?_⟩
  · have i6 := k6 i hi (V.str.inj (of_decide_eq_true c6))
    subst i6
    obtain ⟨dd, rfl, hdd⟩ := h6 rfl
    have eD := xo.d6 rfl
    subst eD
    refine ⟨_, rfl, _, rfl, rfl, rfl, dd, _, _, rfl, (e4 dd rfl).trans hdd, rfl, ⟨(by show 2 ≤ sizeLine; decide), fun t ht => ?_⟩⟩
    exact k _ _ (gr ht) (.tup upd_same (.cons .str (.cons .int .nil)))
  · have n4 : ¬ i = 4 := fun z => c4 (by subst z; decide +kernel)
    have n6 : ¬ i = 6 := fun z => c6 (by subst z; decide +kernel)
    refine ⟨_, rfl, ⟨(by show 1 ≤ sizeLine; decide), fun t ht => ?_⟩⟩
    refine k _ _ (gr ht) ?_
    unfold toldD
    rw [if_neg (fun z => z.elim n4 n6)]
    exact .tup upd_same (.cons .str .nil)
theorem told_cx {P : Program} {w : World} {K : PySem.W.Frag} {mg : Str → Option Value} {base : Heap} {N : List Str} {qual : Str} {scope : Scope} {f : Addr} {cd : Value} {A : Around} {outer : List Env} {s : Shared} {H : Hp} {E : XK} {g : Addr} {cdg : Value} {q : Str}
    (Bm : Blt mg) (nValueError : mg "ValueError" = none) (Gs : Kx mg) (XBadKnown : Xc K Gs.cBadKnown "key") (XBadText : Xc K Gs.cBadText "place") :
    GivesTo (cxOf CX0 P w K mg base N qual scope f cd A outer s H E).nox ["_law_work", "e", "_law_kinds", "_law_words_here", "_law_word"] "_law_told" (defScope s_told) g cdg (defBody s_told) "_law_work" q (TTx K Gs) :=
  told_gives (X := (cxOf CX0 P w K mg base N qual scope f cd A outer s H E).nox) Bm nValueError Gs XBadKnown XBadText
/-- _law_told(lambda: ..) -/
theorem pl {X : Cx} {c Pt : Addr} {k : Nat} {TT : (XK → Hp → VK → Prop) → Hp → VK → Prop} {params : Arguments} {body : Expr} {scope : Scope} {t : XK → TE} {p lpos pos : Pos} (F : Fd X.K X.mg "_law_told" s_told)
    (hG : ∀ (g : Addr) (cdg : Value), GivesTo X ["_law_work", "e", "_law_kinds", "_law_words_here", "_law_word"] "_law_told" (defScope s_told) g cdg (defBody s_told) "_law_work" (X.env.qual ++ "<lambda>") TT)
    (TB : LamX.TabB X.base X.mg c Pt) (hcode : X.env.code = .ref c) (hr : Room (k + 2) X.A) (L : LamX.LamS X.env.scope scope) (hdef : defaultsOf params X.env = ([], []))
    (hbind : ∀ (q : Str) (cl : List (Str × Addr)) (pm cv ctv : Value), bindArgs (PySem.W.kla_fn "<lambda>" q params body scope cl pm cv ctv) ⟨[], []⟩ = pure [])
    (hbody : ∀ (A : Around) (outer : List Env) (s : Shared) (H : Hp) (E : XK) (f c' : Addr), Room k (A.deeper (LamX.lamEnv X scope s.heap.objs.size f c')) → PE (LamX.lamCx X A outer s H E scope f c') body (t E)) (hg : Gl X "_law_told" := by rfl) :
    PE X (.Call (.Name "_law_told" p) [.Lambda params body scope lpos] [] pos) (LamX.tLam [(Pt, X.env.qual ++ "<lambda>")] TT t) := by
  obtain ⟨f, fd, F, hm⟩ := F.ex
  have hb := F.binds (ps := ["_law_work"]) fun _ _ _ _ _ _ us hl => match us, hl with | [_], _ => rfl
  obtain ⟨oc, od, kV, doc, pm, an, cdv, ct, osl, rfl, lk, hcd⟩ := F.ex
  exact LamX.pe_lamcall (Ng := ["_law_work", "e", "_law_kinds", "_law_words_here", "_law_word"]) (a := "_law_work") (c := c) (P := Pt) hg hm F.kp lk hcd hb sc_told rfl (.inl rfl) (hG f cdv) TB hcode List.mem_cons_self (fun p hp _ => by rw [List.mem_singleton.mp hp]) hr L hdef hbind hbody
end Cu

namespace Cu
open PySem PySem.Spec PyProof.Rows L2
open TL (tl)
abbrev s_words : Stmt := (top 30)
theorem sc_words : FnScope ["_law_letter_here", "_law_parts", "_law_row", "_law_part_here"] ["_law_letter_here"] (defScope s_words) := ⟨rfl, rfl, rfl, by decide +kernel, rfl, by decide +kernel, by decide +kernel⟩

def spWords (K : PySem.W.Frag) : Sp := fun vs H Q _ => vs.length = 1 ∧ ∃ (v : V) (l : Letter), vs = [v] ∧ Rp K H l.enc v ∧ Small l ∧ ∀ p H', Tr H [] H' [(p, .lst ((wordsL l).map V.str))] → Q (.ref p) H'
section
variable {P : Program} {w : World} {K : PySem.W.Frag} {mg : Str → Option Value} {base : Heap}
theorem ok_words (F : Fd K mg "_law_words" s_words) (Bm : Blt mg) : Gf P w K mg base 1 "_law_words" ["_law_letter_here"] (spWords K) := by
  refine F.ok sc_words (fun _ _ _ _ _ _ us hl => match us, hl with | [_], _ => rfl) len_of fun qual f cdv A0 outer s H vs Q E hr h => ?_
  obtain ⟨_, v, l, rfl, hv, hs, k⟩ := h
  refine ⟨_, (pss_cons (ps_if (pt_cmpR op_eq (pe_ix ix_tup (pv 0) pe_int (fun _ _ => rfl)) pe_str (nomark _))
        (pss_one (ps_ret (pe_lc (own := [("_law_part_here", 3)]) (g := (gName 3)) (tt := tYes) rfl sc_words.nd (pi_tup (pv 0)) (blkOk_by (N := ["_law_letter_here", "_law_parts", "_law_row", "_law_part_here"]) (sc := defScope s_words) (by decide +kernel)) (fun _ _ _ _ _ => (pg_name (i := 3) sc_words.nd rfl (Or.inl rfl))) (fun _ _ _ _ _ => pts_nil) (fun _ _ _ _ _ => (pe_callTy call_str_any rfl Bm.str (by decide +kernel) (pa_cons (pv 3) pa_nil))))))
        pss_nil)
      (pss_cons (ps_set (i := 1) sc_words.nd rfl (Or.inl rfl) (pe_ifExp (pt_cmpR op_eq (pe_ix ix_tup (pv 0) pe_int (fun _ _ => rfl)) pe_str (nomark _)) (pe_callTy call_list_of rfl Bm.list (by decide +kernel) (pa_cons (pe_slice sl_tup (pv 0) (po_some pe_int) (po_some pe_int)) pa_nil)) (pe_op op_cat (pe_lst (pa_cons (pe_ix ix_tup (pv 0) pe_int (fun _ _ => rfl)) pa_nil)) (pe_callTy call_list_of rfl Bm.list (by decide +kernel) (pa_cons (pe_ix ix_tup (pv 0) pe_int (fun _ _ => rfl)) pa_nil)))))
      (pss_cons (ps_if (pt_cmpR op_eq (pe_ix ix_tup (pv 0) pe_int (fun _ _ => rfl)) pe_str (nomark _))
        (pss_one (ps_for PassesOwn.never rfl (pi_tup (pe_ix ix_tup (pv 0) pe_int (fun _ _ => rfl))) (pg_name (i := 2) sc_words.nd rfl (Or.inl rfl))
          (pss_one (ps_set (i := 1) sc_words.nd rfl (Or.inl rfl) (pe_op op_cat (pv 1) (pe_callTy call_list_of rfl Bm.list (by decide +kernel) (pa_cons (pv 2) pa_nil)))))))
        pss_nil)
      (pss_one (ps_ret (pe_op op_cat (pe_lst (pa_cons (pe_ix ix_tup (pv 0) pe_int (fun _ _ => rfl)) pa_nil)) (pe_lc (own := [("_law_part_here", 3)]) (g := (gName 3)) (tt := tYes) rfl sc_words.nd (pi_list (pv 1)) (blkOk_by (N := ["_law_letter_here", "_law_parts", "_law_row", "_law_part_here"]) (sc := defScope s_words) (by decide +kernel)) (fun _ _ _ _ _ => (pg_name (i := 3) sc_words.nd rfl (Or.inl rfl))) (fun _ _ _ _ _ => pts_nil) (fun _ _ _ _ _ => (pe_callTy call_str_any rfl Bm.str (by decide +kernel) (pa_cons (pv 3) pa_nil)))))))))), ?_⟩
  have hl := wordsL_len hs
  cases l with
  | change n c ahead =>
    obtain ⟨a, rfl, ha⟩ := hv.chg_inv
    obtain ⟨h1, h2, h3, h4, h5⟩ := hs
    refine ⟨_, rfl, a, _, 0, _, rfl, rfl, SqT.of ha, rfl, rfl, _, rfl, iteP (by decide +kernel) ?_⟩
    refine ⟨_, rfl, a, rfl, ⟨_, SqT.of ha⟩, fun D hD => ?_⟩
    refine lc_tup (K := K) (a := a) (xs := _) (fun i H2 => Tr H [] H2 [(D, .lst (((wordsL (.change n c ahead)).take i).map V.str))]) ((Tr.refl H []).new hD nl) (fun i H2 _ t => SqT.of (t.mono _ _ ha trivial)) ?_ ?_
    · intro i y H2 hi t
      have hw' : ∃ w : Str, (wordsL (.change n c ahead))[i]? = some w ∧ ((∃ z : Int, y = .int z ∧ -1000000000 < z ∧ z < 1000000000 ∧ w = nS z) ∨ y = .str w) := by
        match i, hi with
        | 0, hi => exact ⟨_, rfl, .inr (Option.some.inj hi).symm⟩
        | 1, hi => exact ⟨_, rfl, .inl ⟨n, (Option.some.inj hi).symm, by omega, by omega, rfl⟩⟩
        | 2, hi => exact ⟨_, rfl, .inl ⟨c.key, (Option.some.inj hi).symm, by omega, by omega, rfl⟩⟩
        | 3, hi => exact ⟨_, rfl, .inr (Option.some.inj hi).symm⟩
        | 4, hi => exact ⟨_, rfl, .inl ⟨c.worth, (Option.some.inj hi).symm, h3, h4, rfl⟩⟩
        | 5, hi => exact ⟨_, rfl, .inl ⟨ahead, (Option.some.inj hi).symm, by omega, by omega, rfl⟩⟩
        | i + 6, hi => simp at hi
      obtain ⟨w0, ew, hy⟩ := hw'
      have fin : ∃ acc, H2 D = some (.lst acc) ∧ acc.length < sizeLine ∧ Tr H [] (upd H2 D (.lst (acc ++ [V.str w0]))) [(D, .lst (((wordsL (.change n c ahead)).take (i + 1)).map V.str))] := by
        refine ⟨_, t.own.head, ?_, ?_⟩
        · rw [List.length_map]
          exact small1000 (by rw [List.length_take]; omega)
        · rw [take_snoc ew, List.map_append]
          exact t.put .nil nl
      rcases hy with ⟨z, rfl, z1, z2, rfl⟩ | rfl
      · exact ⟨rfl, _, rfl, .inl ⟨z, rfl, slog z1 z2, fin⟩⟩
      · exact ⟨rfl, _, rfl, .inr ⟨_, rfl, fin⟩⟩
    · intro H2 t
      exact k D H2 t
  | part n b rows =>
    obtain ⟨a, t, xs, rfl, ha, ht, hxs, hrow⟩ := hv.part_inv
    obtain ⟨h1, h2, _, h8, h5⟩ := hs
    refine ⟨_, rfl, a, _, 0, _, rfl, rfl, SqT.of ha, rfl, rfl, _, rfl, iteM (by decide +kernel) ?_⟩
    have hz : ∀ z ∈ numsL (.part n b rows), -1000000000 < z ∧ z < 1000000000 := fun z hz => by
      simp only [numsL, List.mem_cons] at hz
      rcases hz with rfl | rfl | hz
      · omega
      · omega
      · exact flatR_small h5 z hz
    have hwd : wordsL (.part n b rows) = ("part" : Str) :: (numsL (.part n b rows)).map nS := rfl
    have hll : (numsL (.part n b rows)).length ≤ 20 := by
      have := hl.2
      rw [hwd, List.length_cons, List.length_map] at this
      omega
    refine ⟨_, rfl, a, _, 0, _, rfl, rfl, SqT.of ha, rfl, rfl, _, rfl, iteP (by decide +kernel) ?_⟩
    refine ⟨_, rfl, _, rfl, _, rfl, a, _, rfl, SqT.of ha, (by show ¬ (HT.sIx 4 0 (some 1) = 0 ∧ HT.sIx 4 4 (some 3) = 4); decide), fun p0 hp0 => ?_⟩
    have t0 := (Tr.refl H []).old (o := .tup (cutV [.str "part", .int (n : Int), .int (b : Int), .ref t] (some 1) (some 3))) hp0
    refine ⟨p0, _, rfl, .inr (SqT.of upd_same), fun p hp => ?_⟩
    have t1 : Tr H [] _ [(p, .lst [.int (n : Int), .int (b : Int)])] := t0.new (o := .lst [.int (n : Int), .int (b : Int)]) hp nl
    refine ⟨_, rfl, a, _, 0, _, rfl, rfl, SqT.of (t1.mono _ _ ha trivial), rfl, rfl, _, rfl, iteP (by decide +kernel) ?_⟩
    refine ⟨_, rfl, a, _, 3, _, rfl, rfl, SqT.of (t1.mono _ _ ha trivial), rfl, t, rfl, ⟨_, SqT.of (t1.mono _ _ ht trivial)⟩, ?_⟩
    refine for_tup (K := K) (a := t) (xs := xs) (fun i σ H2 => ∃ (p : Addr) (v2 : Option V), σ = [some (.ref a), some (.ref p), v2, none] ∧ Tr H [] H2 [(p, .lst (((n : Int) :: (b : Int) :: flatR (rows.take i)).map V.int))])
      ⟨p, none, rfl, t1⟩ (fun i σ H2 _ ⟨_, _, _, t2⟩ => SqT.of (t2.mono _ _ ht trivial)) ?_ ?_
    · rintro i y σ H2 hi ⟨p, v2, rfl, t2⟩
      have hi' : i < rows.length := by
        have := (List.getElem?_eq_some_iff.mp hi).1
        omega
      obtain ⟨r, er⟩ : ∃ r, rows[i]? = some r := ⟨rows[i], List.getElem?_eq_getElem hi'⟩
      obtain ⟨q, hq, hq2⟩ := hrow i r er
      rw [hi] at hq
      cases hq
      refine ⟨_, rfl, _, rfl, q, _, rfl, .inr (SqT.of (t2.mono _ _ hq2 trivial)), fun m hm => ?_⟩
      have t3 := t2.new (o := .lst [.int r.1, .int (r.2 : Int)]) hm nl
      have hfl : (flatR (rows.take i)).length ≤ 20 := by rw [flatR_len, List.length_take]; omega
      refine ⟨p, m, _, _, rfl, rfl, t3.own.tail.head, t3.own.head, ?_, fun p2 hp2 => ?_⟩
      · simp only [List.length_map, List.length_cons, List.length_nil]
        exact Nat.le_trans (show _ ≤ 1000 by omega) (by decide)
      · refine ⟨p2, _, rfl, ?_⟩
        rw [take_snoc er, flatR_append]
        have e : ((n : Int) :: (b : Int) :: (flatR (rows.take i) ++ flatR [r])).map V.int = ((n : Int) :: (b : Int) :: flatR (rows.take i)).map V.int ++ [.int r.1, .int (r.2 : Int)] := by
          simp [flatR]
        rw [e]
        exact (t3.new (o := .lst (((n : Int) :: (b : Int) :: flatR (rows.take i)).map V.int ++ [.int r.1, .int (r.2 : Int)])) hp2 nl).sub (List.Sublist.cons_cons _ (List.nil_sublist _))
    · rintro σ H2 ⟨p, v2, rfl, t2⟩
      rw [hxs, List.take_of_length_le (Nat.le_refl _)] at t2
      replace t2 : Tr H [] H2 [(p, .lst ((numsL (.part n b rows)).map V.int))] := t2
      refine ⟨_, rfl, a, _, 0, _, rfl, rfl, SqT.of (t2.mono _ _ ha trivial), rfl, ⟨(by show 1 ≤ sizeLine; decide), fun q hq => ?_⟩⟩
      have tq := t2.new (o := .lst [.str "part"]) hq nl
      refine ⟨_, rfl, p, rfl, ⟨_, SqL.of tq.own.tail.head⟩, fun D hD => ?_⟩
      refine lc_list (K := K) (a := p) (xs := (numsL (.part n b rows)).map V.int) (fun i H3 => Tr H [] H3 [(D, .lst ((((numsL (.part n b rows)).map nS).take i).map V.str)), (q, .lst [.str "part"]), (p, .lst ((numsL (.part n b rows)).map V.int))]) (tq.new hD nl) (fun i H3 _ t => SqL.of t.own.tail.tail.head) ?_ ?_
      · intro i y H3 hi t3
        obtain ⟨z, ez, rfl⟩ := int_gt hi
        have hzz := hz z (List.mem_of_getElem? ez)
        refine ⟨rfl, _, rfl, .inl ⟨z, rfl, slog hzz.1 hzz.2, ?_⟩⟩
        refine ⟨_, t3.own.head, ?_, ?_⟩
        · rw [List.length_map]
          exact small1000 (by rw [List.length_take, List.length_map]; omega)
        · rw [take_snoc (x := nS z) (by rw [List.getElem?_map, ez]; rfl), List.map_append]
          exact t3.put .nil nl
      · intro H3 t3
        rw [List.take_of_length_le (by rw [List.length_map, List.length_map]; exact Nat.le_refl _)] at t3
        refine ⟨q, D, _, _, rfl, rfl, t3.own.tail.head, t3.own.head, ?_, fun r hr2 => ?_⟩
        · rw [List.length_map, List.length_map]
          exact Nat.le_trans (show 1 + (numsL (.part n b rows)).length ≤ 1000 by omega) (by decide)
        · have t4 := t3.new (o := .lst ([.str "part"] ++ ((numsL (.part n b rows)).map nS).map V.str)) hr2 nl
          have e : [V.str "part"] ++ ((numsL (.part n b rows)).map nS).map V.str = (wordsL (.part n b rows)).map V.str := by rw [hwd]; rfl
          rw [e] at t4 ⊢
          exact k r _ (t4.sub (List.Sublist.cons_cons _ (List.nil_sublist _)))
  | beat n ls =>
    obtain ⟨a, t, rfl, ha, ht⟩ := hv.beat_inv
    obtain ⟨h1, _, h8, h5⟩ := hs
    have hz : ∀ z ∈ numsL (.beat n ls), -1000000000 < z ∧ z < 1000000000 := fun z hz => by
      simp only [numsL, List.mem_cons] at hz
      rcases hz with rfl | hz
      · omega
      · obtain ⟨k, hk, rfl⟩ := List.mem_map.mp hz
        have := h5 k hk
        omega
    have hwd : wordsL (.beat n ls) = ("beat" : Str) :: (numsL (.beat n ls)).map nS := by
      show ("beat" : Str) :: nS n :: ls.map (fun k : Nat => nS k) = ("beat" : Str) :: nS n :: ((ls.map fun k : Nat => (k : Int)).map nS)
      rw [List.map_map]
      rfl
    have hll : (numsL (.beat n ls)).length ≤ 20 := by
      have := hl.2
      rw [hwd, List.length_cons, List.length_map] at this
      omega
    refine ⟨_, rfl, a, _, 0, _, rfl, rfl, SqT.of ha, rfl, rfl, _, rfl, iteM (by decide +kernel) ?_⟩
    refine ⟨_, rfl, a, _, 0, _, rfl, rfl, SqT.of ha, rfl, rfl, _, rfl, iteM (by decide +kernel) ?_⟩
    refine ⟨_, rfl, a, _, 1, _, rfl, rfl, SqT.of ha, rfl, ⟨(by show 1 ≤ sizeLine; decide), fun p1 hp1 => ?_⟩⟩
    have t1 := (Tr.refl H []).new (o := .lst [.int (n : Int)]) hp1 nl
    refine ⟨_, rfl, a, _, 2, _, rfl, rfl, SqT.of (t1.mono _ _ ha trivial), rfl, t, _, rfl, .inr (SqT.of (t1.mono _ _ ht trivial)), fun p2 hp2 => ?_⟩
    have t2 := t1.new (o := .lst (ls.map fun k : Nat => V.int k)) hp2 nl
    refine ⟨p1, p2, _, _, rfl, rfl, t2.own.tail.head, t2.own.head, ?_, fun p hp => ?_⟩
    · rw [List.length_map]
      exact Nat.le_trans (show 1 + ls.length ≤ 1000 by omega) (by decide)
    have t3' := t2.new (o := .lst ([.int (n : Int)] ++ ls.map fun k : Nat => V.int k)) hp nl
    have e3 : (numsL (.beat n ls)).map V.int = [.int (n : Int)] ++ ls.map fun k : Nat => V.int k := by
      show V.int n :: (ls.map fun k : Nat => (k : Int)).map V.int = _
      rw [List.map_map]
      rfl
    rw [← e3] at t3' ⊢
    have t5 := t3'.sub (List.Sublist.cons_cons _ (List.nil_sublist _))
    refine ⟨_, rfl, a, _, 0, _, rfl, rfl, SqT.of (t5.mono _ _ ha trivial), rfl, rfl, _, rfl, iteM (by decide +kernel) ?_⟩
    refine ⟨_, rfl, a, _, 0, _, rfl, rfl, SqT.of (t5.mono _ _ ha trivial), rfl, ⟨(by show 1 ≤ sizeLine; decide), fun q hq => ?_⟩⟩
    have tq := t5.new (o := .lst [.str "beat"]) hq nl
    refine ⟨_, rfl, p, rfl, ⟨_, SqL.of tq.own.tail.head⟩, fun D hD => ?_⟩
    refine lc_list (K := K) (a := p) (xs := (numsL (.beat n ls)).map V.int) (fun i H3 => Tr H [] H3 [(D, .lst ((((numsL (.beat n ls)).map nS).take i).map V.str)), (q, .lst [.str "beat"]), (p, .lst ((numsL (.beat n ls)).map V.int))]) (tq.new hD nl) (fun i H3 _ t => SqL.of t.own.tail.tail.head) ?_ ?_
    · intro i y H3 hi t3
      obtain ⟨z, ez, rfl⟩ := int_gt hi
      have hzz := hz z (List.mem_of_getElem? ez)
      refine ⟨rfl, _, rfl, .inl ⟨z, rfl, slog hzz.1 hzz.2, ?_⟩⟩
      refine ⟨_, t3.own.head, ?_, ?_⟩
      · rw [List.length_map]
        exact small1000 (by rw [List.length_take, List.length_map]; omega)
      · rw [take_snoc (x := nS z) (by rw [List.getElem?_map, ez]; rfl), List.map_append]
        exact t3.put .nil nl
    · intro H3 t3
      rw [List.take_of_length_le (by rw [List.length_map, List.length_map]; exact Nat.le_refl _)] at t3
      refine ⟨q, D, _, _, rfl, rfl, t3.own.tail.head, t3.own.head, ?_, fun r hr2 => ?_⟩
      · rw [List.length_map, List.length_map]
        exact Nat.le_trans (show 1 + (numsL (.beat n ls)).length ≤ 1000 by omega) (by decide)
      · have t4 := t3.new (o := .lst ([.str "beat"] ++ ((numsL (.beat n ls)).map nS).map V.str)) hr2 nl
        have e : [V.str "beat"] ++ ((numsL (.beat n ls)).map nS).map V.str = (wordsL (.beat n ls)).map V.str := by rw [hwd]; rfl
        rw [e] at t4 ⊢
        exact k r _ (t4.sub (List.Sublist.cons_cons _ (List.nil_sublist _)))
end
end Cu

namespace Cu
open PySem PySem.Spec PyProof.Rows L2
open TL (tl)
theorem tl_from0 (z : Str) : tl (cutS z (some 0) none) = tl z := by
  unfold cutS
  rw [HT.sIx_none, show (some (0 : Int)) = some ((0 : Nat) : Int) from rfl, HT.sIx_nat, Nat.zero_min]
  have e : z.cps.toList.length = z.length := Array.length_toList
  show ((z.cps.toList).drop 0).take (z.length - 0) = z.cps.toList
  rw [List.drop_zero, List.take_of_length_le (by omega)]
abbrev s_number : Stmt := (top 31)
theorem sc_number : FnScope ["_law_word", "_law_figures", "_law_sign"] ["_law_word"] (defScope s_number) := ⟨rfl, rfl, rfl, by decide +kernel, rfl, by decide +kernel, by decide +kernel⟩

section
variable {P : Program} {w : World} {K : PySem.W.Frag} {mg : Str → Option Value} {base : Heap}
theorem ok_number (F : Fd K mg "_law_number" s_number) (Bm : Blt mg) : Gf P w K mg base 1 "_law_number" ["_law_word"] spNum := by
  refine F.ok sc_number (fun _ _ _ _ _ _ us hl => match us, hl with | [_], _ => rfl) len_of fun qual f cdv A0 outer s H vs Q E hr h => ?_
  obtain ⟨_, x, rfl, hx, hok, k⟩ := h
  refine ⟨_, (pss_cons (ps_set (i := 1) sc_number.nd rfl (Or.inl rfl) (pe_slice sl_str (pv 0) (po_some (pe_callTy call_int1 rfl Bm.int (by decide +kernel) (pa_cons (pe_cmpR op_eq (pe_slice sl_str (pv 0) po_none (po_some pe_int)) pe_str (nomark _)) pa_nil))) po_none))
      (pss_cons (ps_if (PW.pt (pw_or (pt_cmpR op_eq (pv 1) pe_str (nomark _)) (pw_or (pt_cmpR op_gt (pe_callB call_len_str rfl Bm.len (by decide +kernel) (pa_cons (pv 1) pa_nil)) pe_int (nomark _)) (pw_or1 (pt_cmpR (op_neD hr.units) (pe_lc (own := [("_law_sign", 2)]) (g := (gName 2)) rfl sc_number.nd (pi_str (pv 1)) (blkOk_by (N := ["_law_word", "_law_figures", "_law_sign"]) (sc := defScope s_number) (by decide +kernel)) (fun _ _ _ _ _ => (pg_name (i := 2) sc_number.nd rfl (Or.inl rfl))) (fun _ _ _ _ _ => (pts_one (pt_cmpR op_notIn_sign (pv 2) pe_str (by rfl)))) (fun _ _ _ _ _ => (pv 2))) (pe_lst pa_nil) (nomark _))))))
        (pss_one (ps_ret pe_non))
        pss_nil)
      (pss_one (ps_ret (pe_ifExp (PW.pt (pw_and (pt_cmpR op_eq (pe_ix ix_str (pv 1) pe_int (fun _ _ => rfl)) pe_str (nomark _)) (pw_and1 (pt_cmpR op_ne (pv 0) pe_str (nomark _))))) pe_non (pe_callTy call_int_str rfl Bm.int (by decide +kernel) (pa_cons (pv 0) pa_nil))))))), ?_⟩
  have hz : x.length ≤ sizeLine := Nat.le_trans hx (by decide)
  -- figures = ..
  refine ⟨_, rfl, _, rfl, _, rfl, x, rfl, hz, rfl, .inr ⟨_, rfl, _, rfl, x, rfl, hz, ?_⟩⟩
  have ey : tl (cutS x (some (if decide (V.str (cutS x none (some 1)) = V.str "-") = true then 1 else 0)) none) = figs (tl x) := by
    by_cases e : cutS x none (some 1) = "-"
    · rw [if_pos (decide_eq_true (congrArg V.str e)), tl_from1]
      exact (if_pos ((to1_minus x).mp e)).symm
    · rw [if_neg (fun z => e (V.str.inj (of_decide_eq_true z))), tl_from0]
      exact (if_neg fun z => e ((to1_minus x).mpr z)).symm
  show gName 1 (V.str (cutS x (some (if decide (V.str (cutS x none (some 1)) = V.str "-") = true then 1 else 0)) none)) _ _ _
  generalize cutS x (some (if decide (V.str (cutS x none (some 1)) = V.str "-") = true then 1 else 0)) none = y at ey
  have ly := TL.len_tl y
  have lx := TL.len_tl x
  have hy : (tl y).length ≤ (tl x).length := by
    rw [ey]
    unfold figs
    split
    · rw [List.length_tail]; omega
    · exact Nat.le_refl _
  have hyok : ∀ c ∈ tl y, c < 0x110000 := fun c hc => by
    have hc' : c ∈ tl x := by
      rw [ey] at hc
      unfold figs at hc
      split at hc
      · exact List.mem_of_mem_tail hc
      · exact hc
    have := Array.all_eq_true_iff_forall_mem.mp hok c (by simpa [tl] using hc')
    simpa using this
  have hzy : y.length ≤ sizeLine := by omega
  -- the letters that are no figures
  have key : ∀ (H1 : Hp) (D : Addr) (p : Addr), H1 D = some (.lst (((tl y).filter fun c => !decide (c ∈ tl "0123456789")).map fun c => V.str ⟨#[c]⟩)) → H1 p = some (.lst []) →
      ∃ d e, Dp K H1 (.ref D) d ∧ Dp K H1 (.ref p) e ∧ SeqAt.shaped d = true ∧ SeqAt.shaped e = true ∧ (!PyData.eqv d e) = !digs (tl y) := by
    intro H1 D p hD hp
    have rl : ∀ cs : List Nat, RpL K H1 (cs.map fun c => PyData.str ⟨#[c]⟩) (cs.map fun c => V.str ⟨#[c]⟩) := fun cs => by
      induction cs with
      | nil => exact .nil
      | cons c cs ih => exact .cons .str ih
    refine ⟨.list (((tl y).filter fun c => !decide (c ∈ tl "0123456789")).map fun c => PyData.str ⟨#[c]⟩), .list [], .lst (SqL.of hD) (RpL.dp (rl _)), Dp.nil hp, (Gd.list (n := 0) fun d hd => ?_).shaped, (Gd.nil (n := 0)).shaped, ?_⟩
    · obtain ⟨c, hc, rfl⟩ := List.mem_map.mp hd
      have := hyok c ((List.mem_filter.mp hc).1)
      exact Gd.str (by unfold PyData.strOk; simpa using this)
    · rw [eqv_nil]
      congr 1
      have dg : tl "0123456789" = [48, 49, 50, 51, 52, 53, 54, 55, 56, 57] := by decide +kernel
      rw [List.isEmpty_map, dg]
      cases hd : digs (tl y) with
      | true =>
        have := digs_all hd
        rw [List.isEmpty_iff, List.filter_eq_nil_iff]
        intro c hc
        have h1 := this c hc
        have : c ∈ [48, 49, 50, 51, 52, 53, 54, 55, 56, 57] := by simp; omega
        simp [this]
      | false =>
        refine Bool.eq_false_iff.mpr fun z => ?_
        rw [List.isEmpty_iff, List.filter_eq_nil_iff] at z
        refine absurd (digs_of fun c hc => ?_) (Bool.eq_false_iff.mp hd)
        have h1 := z c hc
        have : c ∈ [48, 49, 50, 51, 52, 53, 54, 55, 56, 57] := by
          by_cases q : c ∈ [48, 49, 50, 51, 52, 53, 54, 55, 56, 57]
          · exact q
          · exact absurd (by rw [decide_eq_false q]; rfl) h1
        simp only [List.mem_cons, List.not_mem_nil, or_false] at this
        omega
  have dof : ∀ b, figOk (tl x) = b → (decide (1 ≤ (tl y).length) && decide ((tl y).length ≤ 9) && digs (tl y)) = b := fun b e => by
    rw [ey]
    exact e
  have hnone : figOk (tl x) = false → ∀ H2, Grow H H2 → Q .non H2 := fun hf H2 g2 => by
    have q := k H2 g2
    unfold numW numL' at q
    rw [hf, if_neg Bool.false_ne_true] at q
    exact q
  -- figures == ""
  refine ⟨_, rfl, rfl, _, rfl, ite2 (fun c1 => ?_) fun c1 => ?_⟩
  · refine iteP rfl (hnone ?_ H (Tr.refl H _))
    have e1 : y = "" := V.str.inj (of_decide_eq_true c1)
    rw [← dof _ rfl, e1]
    decide +kernel
  have h1 : 1 ≤ (tl y).length := by
    rcases Nat.eq_zero_or_pos (tl y).length with e | e
    · refine absurd (decide_eq_true (congrArg V.str (TL.ext_tl (x := y) (y := "") ?_))) c1
      rw [List.eq_nil_of_length_eq_zero e]
      decide +kernel
    · exact e
  refine ⟨_, rfl, y, rfl, hzy, _, _, rfl, rfl, _, rfl, ite2 (fun c2 => ?_) fun c2 => ?_⟩
  · refine iteP rfl (hnone ?_ H (Tr.refl H _))
    have h9 : ¬ ((tl y).length ≤ 9) := by
      have := of_decide_eq_true c2
      omega
    rw [← dof _ rfl, decide_eq_false h9, Bool.and_false, Bool.false_and]
  have h9 : (tl y).length ≤ 9 := by
    rcases Nat.lt_or_ge 9 (tl y).length with e | e
    · exact absurd (decide_eq_true (show (9 : Int) < ((y.length : Nat) : Int) by omega)) c2
    · exact e
  have dig : figOk (tl x) = digs (tl y) := by rw [← dof _ rfl, decide_eq_true h1, decide_eq_true h9]; rfl
  refine ⟨_, rfl, y, rfl, fun D hD => ?_⟩
  refine lc_it (walk_str (z := y)) (fun i H2 => H2 = upd H D (.lst ((((tl y).take i).filter fun c => !decide (c ∈ tl "0123456789")).map fun c => V.str ⟨#[c]⟩))) rfl (fun _ _ _ _ => trivial) ?_ ?_
  · rintro i v H2 H3 hi rfl ⟨rfl, c, ec, rfl⟩
    have ec' : (tl y)[i]? = some c := by rw [← ec]; simp [tl]
    refine ⟨rfl, _, rfl, c, "0123456789", rfl, rfl, _, rfl, ?_⟩
    rw [take_snoc ec', List.filter_append, List.map_append]
    refine ite2 (fun hc => ?_) fun hc => ?_
    · refine ⟨_, rfl, _, upd_same, ?_, ?_⟩
      · rw [List.length_map]
        exact small1000 (Nat.le_trans (List.length_filter_le _ _) (by rw [List.length_take]; omega))
      · rw [upd_upd, List.filter_cons_of_pos (p := fun c => !decide (c ∈ tl "0123456789")) hc]
        rfl
    · rw [List.filter_cons_of_neg (p := fun c => !decide (c ∈ tl "0123456789")) hc]
      simp
  · rintro _ rfl
    rw [List.take_of_length_le (by rw [show y.cps.size = y.length from rfl, ly]; exact Nat.le_refl _)]
    refine ⟨(by show 0 ≤ sizeLine; decide), fun p hp => ?_⟩
    have nD : D ≠ p := ne_of_none upd_same hp
    have g2 : Grow H (upd (upd H D (.lst ((((tl y)).filter fun c => !decide (c ∈ tl "0123456789")).map fun c => V.str ⟨#[c]⟩))) p (.lst [])) := ((Tr.refl H []).old hD).old hp
    obtain ⟨d, e, q1, q2, q3, q4, q5⟩ := key (upd (upd H D (.lst ((((tl y)).filter fun c => !decide (c ∈ tl "0123456789")).map fun c => V.str ⟨#[c]⟩))) p (.lst [])) D p (by rw [upd_ne nD]; exact upd_same) upd_same
    refine ⟨d, e, q1, q2, q3, q4, _, rfl, ?_⟩
    rw [q5]
    generalize (upd (upd H D (.lst ((((tl y)).filter fun c => !decide (c ∈ tl "0123456789")).map fun c => V.str ⟨#[c]⟩))) p (.lst [])) = H2 at g2
    refine ite2 (fun hb => ?_) fun hb => ?_
    · refine hnone ?_ _ g2
      rw [dig]
      simpa using hb
    have hf : figOk (tl x) = true := by rw [dig]; simpa using hb
    obtain ⟨t1, t2⟩ := numW_int hf
    cases hh : tl y with
    | nil => rw [hh] at h1; simp at h1
    | cons c0 r0 =>
      have e0 : atI y.cps.toList 0 = some c0 := by
        show atI (tl y) 0 = some c0
        rw [hh]
        show ((ixN (r0.length + 1) ((0 : Nat) : Int)).bind fun j => (c0 :: r0)[j]?) = _
        rw [ixN_nat (by omega)]
        rfl
      have fin : nought (tl x) = false → Q (.int (valW (tl x))) H2 := fun hn => by
        have q := k H2 g2
        unfold numW numL' at q
        rw [if_pos hf, hn, if_neg Bool.false_ne_true] at q
        exact q
      have fin2 : nought (tl x) = true → Q .non H2 := fun hn => by
        have q := k H2 g2
        unfold numW numL' at q
        rw [if_pos hf, if_pos hn] at q
        exact q
      have c0x : (figs (tl x)).head? = some c0 := by rw [← ey, hh]; rfl
      refine ⟨_, rfl, y, 0, c0, rfl, rfl, hzy, e0, rfl, _, rfl, ite2 (fun a0 => ?_) fun a0 => ?_⟩
      · have ec : c0 = 48 := by
          have e : (⟨#[c0]⟩ : Str) = "0" := V.str.inj (of_decide_eq_true a0)
          have e2 := congrArg tl e
          exact (List.cons.inj (show [c0] = [48] from e2)).1
        refine ⟨_, rfl, rfl, _, rfl, ite2 (fun b0 => ?_) fun b0 => ?_⟩
        · refine fin2 ?_
          unfold nought
          have hne : tl x ≠ [48] := fun z => by
            have : x = "0" := TL.ext_tl z
            subst this
            exact absurd b0 (by decide +kernel)
          rw [c0x, ec, decide_eq_true rfl, decide_eq_true hne]
          rfl
        · refine ⟨_, rfl, x, _, rfl, t1, t2, fin ?_⟩
          unfold nought
          have hne : ¬ tl x ≠ [48] := fun z => b0 (by
            rw [decide_eq_false fun q => z (by rw [V.str.inj q]; decide +kernel)]
            rfl)
          rw [decide_eq_false hne, Bool.and_false]
      · refine iteM (by decide) ⟨_, rfl, x, _, rfl, t1, t2, fin ?_⟩
        unfold nought
        have hne : ¬ ((figs (tl x)).head? = some 48) := fun z => a0 (by
          rw [c0x] at z
          have : c0 = 48 := Option.some.inj z
          subst this
          decide +kernel)
        rw [decide_eq_false hne, Bool.false_and]
end
end Cu

namespace Cu
open PySem PySem.Spec PyProof.Rows L2
open TL (tl)
abbrev s_due : Stmt := (top 32)
theorem sc_due : FnScope ["_law_words_here", "_law_kind", "_law_numbers", "_law_at", "_law_signed", "_law_good", "_law_word"] ["_law_words_here"] (defScope s_due) := ⟨rfl, rfl, rfl, by decide +kernel, rfl, by decide +kernel, by decide +kernel⟩

def dueD (ws : List Str) : PyData := match badW ws with
  | some n => toldD 6 n
  | none => letD ws
def spDue (K : PySem.W.Frag) : Sp := fun vs H Q _ => vs.length = 1 ∧ ∃ (a : Addr) (ws : List Str), vs = [.ref a] ∧ FzL K H a (ws.map V.str) ∧ 0 < ws.length ∧ ws.length ≤ 900 ∧ (∀ w ∈ ws, WdOk w) ∧ ∀ v H', Grow H H' → Rp K H' (dueD ws) v → Q v H'
def sgW (ws : List Str) (i : Nat) : Bool := decide ((ws.getD 0 "" = "change" ∧ i = 4) ∨ (ws.getD 0 "" = "part" ∧ 2 < i ∧ i % 2 = 1))
def gd1W (ws : List Str) (i : Nat) : Bool := match numW (ws.getD i "") with
  | none => false
  | some n => sgW ws i || decide (0 ≤ n)
def gd2W (ws : List Str) (i : Nat) : Bool := if ws.getD 0 "" = "change" ∧ i = 3 then (ws.getD 3 "" == "set" || ws.getD 3 "" == "add") else gd1W ws i
def gd3W (ws : List Str) (i : Nat) : Bool := if i = 0 then kindOk (ws.getD 0 "") else gd2W ws i
theorem right_gd (ws : List Str) (i : Nat) : rightW ws i = (gd3W ws i && !decide (ws.getD 0 "" = "change" ∧ 5 < i)) := by
  unfold rightW gd3W
  by_cases h0 : i = 0
  · rw [if_pos h0, if_pos h0, decide_eq_false (fun z => by omega)]
    simp
  · rw [if_neg h0, if_neg h0]
    unfold gd2W
    by_cases h3 : ws.getD 0 "" = "change" ∧ i = 3
    · rw [if_pos h3, if_pos h3, decide_eq_false (fun z => by have := h3.2; omega)]
      simp
    · rw [if_neg h3, if_neg h3]
      unfold gd1W sgW
      cases numW (ws.getD i "") with
      | none => rfl
      | some n =>
        by_cases h5 : ws.getD 0 "" = "change" ∧ 5 < i
        · simp only [if_pos h5, decide_eq_true h5, Bool.not_true, Bool.and_false]
        · simp only [if_neg h5, decide_eq_false h5, Bool.not_false, Bool.and_true]
          split
          · rename_i hs
            rw [decide_eq_true hs, Bool.true_or]
          · rename_i hs
            rw [decide_eq_false hs, Bool.false_or]
section
variable {P : Program} {w : World} {K : PySem.W.Frag} {mg : Str → Option Value} {base : Heap}
theorem ok_due (F : Fd K mg "_law_due" s_due) (Bm : Blt mg) (g_number : Gf P w K mg base 1 "_law_number" ["_law_word"] spNum) : Gf P w K mg base 2 "_law_due" ["_law_words_here"] (spDue K) := by
  refine F.ok sc_due (fun _ _ _ _ _ _ us hl => match us, hl with | [_], _ => rfl) len_of fun qual f cdv A0 outer s H vs Q E hr h => ?_
  obtain ⟨_, a, ws, rfl, fa, h0, h9, hok, k⟩ := h
  refine ⟨_, (pss_cons (ps_set (i := 1) sc_due.nd rfl (Or.inl rfl) (pe_ix ix_list (pv 0) pe_int (fun _ _ => rfl)))
      (pss_cons (ps_set (i := 2) sc_due.nd rfl (Or.inr rfl) (pe_fz (pe_lc (own := [("_law_word", 6)]) (g := (gName 6)) (tt := tYes) rfl sc_due.nd (pi_list (pv 0)) (blkOk_by (N := ["_law_words_here", "_law_kind", "_law_numbers", "_law_at", "_law_signed", "_law_good", "_law_word"]) (sc := defScope s_due) (by decide +kernel)) (fun _ _ _ _ _ => (pg_name (i := 6) sc_due.nd rfl (Or.inl rfl))) (fun _ _ _ _ _ => pts_nil) (fun _ _ _ _ _ => (pc g_number hr (pa_cons (pv 6) pa_nil))))))
      (pss_cons (ps_for PassesOwn.never rfl (pi_range1 rfl Bm.range (pa_cons (pe_callB call_len_seq rfl Bm.len (by decide +kernel) (pa_cons (pv 0) pa_nil)) pa_nil)) (pg_name (i := 3) sc_due.nd rfl (Or.inl rfl))
        (pss_cons (ps_mid (ps_set (i := 4) sc_due.nd rfl (Or.inl rfl) (pe_or (pe_and (pe_cmpR op_eq (pv 1) pe_str (nomark _)) (pe_one (pe_cmpR op_eq (pv 3) pe_int (nomark _)))) (pe_one (pe_and (pe_cmpR op_eq (pv 1) pe_str (nomark _)) (pe_and (pe_cmpR op_gt (pv 3) pe_int (nomark _)) (pe_one (pe_cmpR op_eq (pe_op op_mod (pv 3) pe_int) pe_int (nomark _)))))))))
        (pss_cons (ps_mid (ps_set (i := 5) sc_due.nd rfl (Or.inl rfl) (pe_and (pe_cmpR op_notN (pe_ix ix_list (pv 2) (pv 3) (fun _ _ => rfl)) pe_non (nomark _)) (pe_one (pe_or (pv 4) (pe_one (pe_cmpR op_ge (pe_ix ix_list (pv 2) (pv 3) (fun _ _ => rfl)) pe_int (nomark _))))))))
        (pss_cons (ps_mid (ps_if (PW.pt (pw_and (pt_cmpR op_eq (pv 1) pe_str (nomark _)) (pw_and1 (pt_cmpR op_eq (pv 3) pe_int (nomark _)))))
          (pss_one (ps_set (i := 5) sc_due.nd rfl (Or.inl rfl) (pe_cmpR op_in_seq (pe_ix ix_list (pv 0) (pv 3) (fun _ _ => rfl)) (pe_tup (pa_cons pe_str (pa_cons pe_str pa_nil))) (by rfl))))
          pss_nil))
        (pss_cons (ps_mid (ps_if (pt_cmpR op_eq (pv 3) pe_int (nomark _))
          (pss_one (ps_set (i := 5) sc_due.nd rfl (Or.inl rfl) (pe_cmpR op_in_seq (pv 1) (pe_tup (pa_cons pe_str (pa_cons pe_str (pa_cons pe_str pa_nil)))) (by rfl))))
          pss_nil))
        (pss_one (ps_if (PW.pt (pw_or (pt_not (pt_val (pv 5))) (pw_or1 (PW.pt (pw_and (pt_cmpR op_eq (pv 1) pe_str (nomark _)) (pw_and1 (pt_cmpR op_gt (pv 3) pe_int (nomark _))))))))
          (pss_one (ps_ret (pe_tup (pa_cons pe_str (pa_cons (pv 3) pa_nil)))))
          pss_nil)))))))
      (pss_cons (ps_mid (ps_if (PW.pt (pw_or (pt_cmpR op_lt (pe_callB call_len_seq rfl Bm.len (by decide +kernel) (pa_cons (pv 0) pa_nil)) (pe_dget (hu_of hr) (pe_disp (pps_cons pe_str pe_int (pps_cons pe_str pe_int (pps_cons pe_str pe_int pps_nil))) (by rfl) (by rfl) (fun z => by cases z) (by decide)) (pv 1) (fun _ _ => rfl)) (nomark _)) (pw_or1 (PW.pt (pw_and (pt_cmpR op_eq (pv 1) pe_str (nomark _)) (pw_and1 (pt_cmpR op_eq (pe_op op_mod (pe_callB call_len_seq rfl Bm.len (by decide +kernel) (pa_cons (pv 0) pa_nil)) pe_int) pe_int (nomark _))))))))
        (pss_one (ps_ret (pe_tup (pa_cons pe_str (pa_cons (pe_callB call_len_seq rfl Bm.len (by decide +kernel) (pa_cons (pv 0) pa_nil)) pa_nil)))))
        pss_nil))
      (pss_cons (ps_if (pt_cmpR op_eq (pv 1) pe_str (nomark _))
        (pss_one (ps_ret (pe_tup (pa_cons (pv 1) (pa_cons (pe_ix ix_list (pv 2) pe_int (fun _ _ => rfl)) (pa_cons (pe_ix ix_list (pv 2) pe_int (fun _ _ => rfl)) (pa_cons (pe_ix ix_list (pv 0) pe_int (fun _ _ => rfl)) (pa_cons (pe_ix ix_list (pv 2) pe_int (fun _ _ => rfl)) (pa_cons (pe_ix ix_list (pv 2) pe_int (fun _ _ => rfl)) pa_nil)))))))))
        pss_nil)
      (pss_cons (ps_if (pt_cmpR op_eq (pv 1) pe_str (nomark _))
        (pss_one (ps_ret (pe_tup (pa_cons (pv 1) (pa_cons (pe_ix ix_list (pv 2) pe_int (fun _ _ => rfl)) (pa_cons (pe_callTy call_tuple_of rfl Bm.tuple (by decide +kernel) (pa_cons (pe_slice sl_list (pv 2) (po_some pe_int) po_none) pa_nil)) pa_nil))))))
        pss_nil)
      (pss_one (ps_ret (pe_tup (pa_cons (pv 1) (pa_cons (pe_ix ix_list (pv 2) pe_int (fun _ _ => rfl)) (pa_cons (pe_ix ix_list (pv 2) pe_int (fun _ _ => rfl)) (pa_cons (pe_callTy call_tuple_of rfl Bm.tuple (by decide +kernel) (pa_cons (pe_lc (own := [("_law_at", 3)]) (g := (gName 3)) (tt := tYes) rfl sc_due.nd (pi_range3 rfl Bm.range (pa_cons pe_int (pa_cons (pe_callB call_len_seq rfl Bm.len (by decide +kernel) (pa_cons (pv 0) pa_nil)) (pa_cons pe_int pa_nil)))) (blkOk_by (N := ["_law_words_here", "_law_kind", "_law_numbers", "_law_at", "_law_signed", "_law_good", "_law_word"]) (sc := defScope s_due) (by decide +kernel)) (fun _ _ _ _ _ => (pg_name (i := 3) sc_due.nd rfl (Or.inl rfl))) (fun _ _ _ _ _ => pts_nil) (fun _ _ _ _ _ => (pe_tup (pa_cons (pe_ix (ix_listK K rfl) (pv 2) (pv 3) (fun _ _ => rfl)) (pa_cons (pe_ix (ix_listK K rfl) (pv 2) (pe_op op_add (pv 3) pe_int) (fun _ _ => rfl)) pa_nil))))) pa_nil)) pa_nil))))))))))))), ?_⟩
  have hlen : (ws.map V.str).length = ws.length := List.length_map ..
  have eqS : ∀ {u v : Str}, decide (V.str u = V.str v) = true → u = v := fun h => V.str.inj (of_decide_eq_true h)
  have neS : ∀ {u v : Str}, ¬ decide (V.str u = V.str v) = true → ¬ u = v := fun h z => h (decide_eq_true (congrArg V.str z))
  have eqI : ∀ {u v : Int}, decide (V.int u = V.int v) = true → u = v := fun h => V.int.inj (of_decide_eq_true h)
  have neI : ∀ {u v : Int}, ¬ decide (V.int u = V.int v) = true → ¬ u = v := fun h z => h (decide_eq_true (congrArg V.int z))
  -- kind = words[0]
  refine ⟨_, rfl, a, _, 0, _, rfl, rfl, fa.sq, ixS h0, ?_⟩
  -- numbers
  refine rd_fz ?_
  refine ⟨_, rfl, a, rfl, ⟨_, fa.sq⟩, fun D hD => ?_⟩
  refine lc_list (K := K) (a := a) (xs := ws.map V.str) (fun i H2 => Tr H [] H2 [(D, .lst ((ws.take i).map fun w => optN (numW w)))]) ((Tr.refl H []).new hD nl) (fun i H2 _ t => (fa.mono t.mono).sq) ?_ ?_
  · intro i y H2 hi t
    have hil : i < ws.length := by
      have := (List.getElem?_eq_some_iff.mp hi).1
      rwa [hlen] at this
    rw [strs_at hil] at hi
    cases hi
    have hw := hok _ (List.mem_of_getElem? (getD_at hil))
    refine ⟨rfl, _, rfl, rfl, ws.getD i "", rfl, hw.1, hw.2, fun H3 g3 => ?_⟩
    have t3 := t.grow g3
    refine ⟨_, t3.own.head, ?_, ?_⟩
    · rw [List.length_map]
      exact small1000 (by rw [List.length_take]; omega)
    · rw [take_snoc (getD_at hil), List.map_append]
      exact t3.put .nil nl
  intro H2 t
  rw [List.take_of_length_le (by rw [hlen]; exact Nat.le_refl _)] at t
  refine ⟨D, _, rfl, t.own.head, fun o => ?_⟩
  have g3 : Grow H _ := t.fz (ob := o) .nil
  have f3 : FzL K (upd H2 D (.frz o (.lst (ws.map fun w => optN (numW w))))) D (ws.map fun w => optN (numW w)) := FzL.frz
  have a3 := fa.mono g3.mono
  generalize (upd H2 D (.frz o (.lst (ws.map fun w => optN (numW w))))) = H3 at g3 f3 a3
  have nx : ∀ {i : Nat}, i < ws.length → atI (ws.map fun w => optN (numW w)) (i : Int) = some (optN (numW (ws.getD i ""))) := fun {i} hi => by
    unfold atI
    rw [ixN_nat (by rw [List.length_map]; exact hi)]
    show (ws.map fun w => optN (numW w))[i]? = _
    rw [List.getElem?_map, getD_at hi]
    rfl
  refine ⟨_, rfl, a, _, rfl, .inl a3.sq, _, rfl, by rw [hlen]; omega, by rw [hlen]; omega, ?_⟩
  rw [hlen, Int.toNat_natCast]
  refine for_range (lo := 0) (n := ws.length) (fun i σ H4 => ∃ v3 v4 v5 : Option V, σ = [some (.ref a), some (.str (ws.getD 0 "")), some (.ref D), v3, v4, v5, none] ∧ Grow H H4 ∧ FzL K H4 a (ws.map V.str) ∧ FzL K H4 D (ws.map fun w => optN (numW w)) ∧ ∀ j, j < i → rightW ws j = true)
    ⟨none, none, none, rfl, g3, a3, f3, fun _ h => absurd h (Nat.not_lt_zero _)⟩ ?_ ?_
  · rintro i σ H4 hi ⟨v3, v4, v5, rfl, g4, a4, f4, hj⟩
    rw [show ((0 : Int) + i) = i by omega]
    -- signed
    refine rd_mid (fun σ' H' => σ' = [some (.ref a), some (.str (ws.getD 0 "")), some (.ref D), some (.int i), some (.bl (sgW ws i)), v5, none] ∧ H4 = H') ?_ ?_
    · have yes : sgW ws i = true → ∀ {b : Bool}, b = true → ([some (.ref a), some (.str (ws.getD 0 "")), some (.ref D), some (.int i), some (.bl b), v5, none] : L2.St) = [some (.ref a), some (.str (ws.getD 0 "")), some (.ref D), some (.int i), some (.bl (sgW ws i)), v5, none] ∧ H4 = H4 := fun h b hb => by rw [h, hb]; exact ⟨rfl, rfl⟩
      have no : sgW ws i = false → ∀ {b : Bool}, b = false → ([some (.ref a), some (.str (ws.getD 0 "")), some (.ref D), some (.int i), some (.bl b), v5, none] : L2.St) = [some (.ref a), some (.str (ws.getD 0 "")), some (.ref D), some (.int i), some (.bl (sgW ws i)), v5, none] ∧ H4 = H4 := fun h b hb => by rw [h, hb]; exact ⟨rfl, rfl⟩
      refine ⟨_, rfl, rfl, _, rfl, ite2 (fun c1 => ?_) fun c1 => ?_⟩
      · have e0 := eqS c1
        refine ⟨_, rfl, rfl, _, rfl, ite2 (fun c2 => ?_) fun c2 => ?_⟩
        · exact yes (decide_eq_true (.inl ⟨e0, by have := eqI c2; omega⟩)) rfl
        · refine ⟨_, rfl, rfl, _, rfl, iteM (fun z => change_np (e0.symm.trans (eqS z))) (no (decide_eq_false ?_) rfl)⟩
          rintro (z | z)
          · exact neI c2 (by omega)
          · exact change_np (e0.symm.trans z.1)
      · have n0 := neS c1
        refine ⟨_, rfl, iteM (by decide) ?_⟩
        refine ⟨_, rfl, rfl, _, rfl, ite2 (fun c3 => ?_) fun c3 => ?_⟩
        · have e0 := eqS c3
          refine ⟨_, rfl, _, _, rfl, rfl, _, rfl, ite2 (fun c4 => ?_) fun c4 => ?_⟩
          · have h2 : 2 < i := by have := of_decide_eq_true c4; omega
            refine ⟨_, rfl, _, _, rfl, rfl, (by show (0 : Int) < 2; decide), rfl, ?_⟩
            by_cases ho : i % 2 = 1
            · exact yes (decide_eq_true (.inr ⟨e0, h2, ho⟩)) (decide_eq_true (congrArg V.int (by omega)))
            · refine no (decide_eq_false ?_) (decide_eq_false fun z => ho (by have := V.int.inj z; omega))
              rintro (z | z)
              · exact n0 z.1
              · exact ho z.2.2
          · refine no (decide_eq_false ?_) rfl
            rintro (z | z)
            · exact n0 z.1
            · exact c4 (decide_eq_true (by omega))
        · refine no (decide_eq_false ?_) rfl
          rintro (z | z)
          · exact n0 z.1
          · exact neS c3 z.1
    rintro _ _ ⟨rfl, rfl⟩
    refine rd_mid (fun σ' H' => σ' = [some (.ref a), some (.str (ws.getD 0 "")), some (.ref D), some (.int i), some (.bl (sgW ws i)), some (.bl (gd1W ws i)), none] ∧ H4 = H') ?_ ?_
    · refine ⟨_, rfl, _, rfl, D, _, (i : Int), _, rfl, rfl, f4.sq, nx hi, rfl, ?_⟩
      cases en : numW (ws.getD i "") with
      | none =>
        have e : gd1W ws i = false := by unfold gd1W; rw [en]
        rw [e]
        exact ⟨_, rfl, iteM (by simp [optN]) ⟨rfl, rfl⟩⟩
      | some n =>
        refine ⟨_, rfl, iteP (by simp [optN]) ?_⟩
        refine ⟨_, rfl, _, rfl, ite2 (fun c1 => ?_) fun c1 => ?_⟩
        · have e : gd1W ws i = true := by unfold gd1W; rw [en, c1]; rfl
          rw [e]
          exact ⟨rfl, rfl⟩
        · have c1' : sgW ws i = false := by simpa using c1
          have e : gd1W ws i = decide (0 ≤ n) := by unfold gd1W; rw [en, c1']; rfl
          rw [e]
          refine ⟨_, rfl, _, rfl, D, _, (i : Int), _, rfl, rfl, f4.sq, nx hi, ?_⟩
          rw [en]
          exact ⟨_, _, rfl, rfl, rfl, rfl⟩
    rintro _ _ ⟨rfl, rfl⟩
    refine rd_mid (fun σ' H' => σ' = [some (.ref a), some (.str (ws.getD 0 "")), some (.ref D), some (.int i), some (.bl (sgW ws i)), some (.bl (gd2W ws i)), none] ∧ Grow H4 H') ?_ ?_
    · refine ⟨_, rfl, rfl, _, rfl, ite2 (fun c1 => ?_) fun c1 => ?_⟩
      · refine ⟨_, rfl, rfl, _, rfl, ite2 (fun c2 => ?_) fun c2 => ?_⟩
        · have hi3 : i = 3 := by have := eqI c2; omega
          subst hi3
          have e : gd2W ws 3 = (ws.getD 3 "" == "set" || ws.getD 3 "" == "add") := if_pos ⟨eqS c1, rfl⟩
          rw [e, ← inV2]
          refine ⟨_, rfl, _, rfl, a, _, 3, _, rfl, rfl, a4.sq, ixS (i := 3) hi, ⟨(by show 2 ≤ sizeLine; decide), fun t ht => ?_⟩⟩
          exact ⟨t, _, rfl, .inr (SqT.of upd_same), rfl, rfl, rfl, (Tr.refl H4 []).old ht⟩
        · have e : gd2W ws i = gd1W ws i := if_neg fun z => neI c2 (by omega)
          rw [e]
          exact ⟨rfl, Tr.refl H4 _⟩
      · have e : gd2W ws i = gd1W ws i := if_neg fun z => neS c1 z.1
        rw [e]
        exact iteM (by decide) ⟨rfl, Tr.refl H4 _⟩
    rintro _ H5 ⟨rfl, g5⟩
    refine rd_mid (fun σ' H' => σ' = [some (.ref a), some (.str (ws.getD 0 "")), some (.ref D), some (.int i), some (.bl (sgW ws i)), some (.bl (gd3W ws i)), none] ∧ Grow H4 H') ?_ ?_
    · refine ⟨_, rfl, rfl, _, rfl, ite2 (fun c1 => ?_) fun c1 => ?_⟩
      · have hi0 : i = 0 := by have := eqI c1; omega
        subst hi0
        have e : gd3W ws 0 = kindOk (ws.getD 0 "") := if_pos rfl
        rw [e, ← inV3]
        refine ⟨_, rfl, ⟨(by show 3 ≤ sizeLine; decide), fun t ht => ?_⟩⟩
        exact ⟨t, _, rfl, .inr (SqT.of upd_same), rfl, rfl, rfl, g5.old ht⟩
      · have e : gd3W ws i = gd2W ws i := if_neg fun z => neI c1 (by omega)
        rw [e]
        exact ⟨rfl, g5⟩
    rintro _ H6 ⟨rfl, g6⟩
    have rg := right_gd ws i
    have bad : rightW ws i = false → ∀ {t : Addr}, H6 t = none → Q (.ref t) (upd H6 t (.tup [.str "text", .int i])) := fun hb {t} ht => by
      refine k _ _ ((g4.trans g6).old ht) ?_
      unfold dueD
      rw [badW_some hi hj hb]
      exact .tup upd_same (.cons .str (.cons .int .nil))
    have good : rightW ws i = true → ∃ v3 v4 v5 : Option V, ([some (.ref a), some (.str (ws.getD 0 "")), some (.ref D), some (.int i), some (.bl (sgW ws i)), some (.bl (gd3W ws i)), none] : L2.St) = [some (.ref a), some (.str (ws.getD 0 "")), some (.ref D), v3, v4, v5, none] ∧ Grow H H6 ∧ FzL K H6 a (ws.map V.str) ∧ FzL K H6 D (ws.map fun w => optN (numW w)) ∧ ∀ j, j < i + 1 → rightW ws j = true := fun h =>
      ⟨_, _, _, rfl, g4.trans g6, a4.mono g6.mono, f4.mono g6.mono, fun j hj' => by
        rcases Nat.lt_succ_iff_lt_or_eq.mp hj' with q | rfl
        · exact hj j q
        · exact h⟩
    refine ⟨_, rfl, _, rfl, ite2 (fun c1 => ?_) fun c1 => ?_⟩
    · refine iteP rfl ⟨_, rfl, ⟨(by show 2 ≤ sizeLine; decide), fun t ht => bad ?_ ht⟩⟩
      have c1' : gd3W ws i = false := by simpa using c1
      rw [rg, c1']
      rfl
    have c1' : gd3W ws i = true := by simpa using c1
    rw [c1', Bool.true_and] at rg
    refine ⟨_, rfl, rfl, _, rfl, ite2 (fun c2 => ?_) fun c2 => ?_⟩
    · refine ⟨_, rfl, _, _, rfl, rfl, _, rfl, ite2 (fun c3 => ?_) fun c3 => ?_⟩
      · refine ⟨_, rfl, ⟨(by show 2 ≤ sizeLine; decide), fun t ht => bad ?_ ht⟩⟩
        rw [rg, decide_eq_true ⟨eqS c2, by have := of_decide_eq_true c3; omega⟩]
        rfl
      · refine good ?_
        rw [rg, decide_eq_false fun z => c3 (decide_eq_true (by omega))]
        rfl
    · refine iteM (by decide) (good ?_)
      rw [rg, decide_eq_false fun z => neS c2 z.1]
      rfl
  · rintro σ H4 ⟨v3, v4, v5, rfl, g4, a4, f4, hall⟩
    have kd : ws.getD 0 "" = "change" ∨ ws.getD 0 "" = "part" ∨ ws.getD 0 "" = "beat" := by
      have h00 := hall 0 h0
      unfold rightW at h00
      rw [if_pos rfl] at h00
      unfold kindOk at h00
      simp only [Bool.or_eq_true, beq_iff_eq] at h00
      rcases h00 with (h | h) | h
      · exact .inl h
      · exact .inr (.inl h)
      · exact .inr (.inr h)
    have short : doneW ws = false → ∀ {H5 : Hp} {t : Addr}, Grow H H5 → H5 t = none → Q (.ref t) (upd H5 t (.tup [.str "text", .int (((ws.map V.str).length : Nat) : Int)])) := fun hd {H5 t} g5 ht => by
      refine k _ _ (g5.old ht) ?_
      unfold dueD
      rw [badW_len hall hd, hlen]
      exact .tup upd_same (.cons .str (.cons .int .nil))
    have evn : ∀ n : Nat, decide (V.int ((n : Int) % 2) = V.int 0) = decide (n % 2 = 0) := fun n => decide_eq_decide.mpr ⟨fun z => by have := V.int.inj z; omega, fun z => congrArg V.int (by omega)⟩
    refine rd_mid (fun σ' H' => σ' = [some (.ref a), some (.str (ws.getD 0 "")), some (.ref D), v3, v4, v5, none] ∧ Grow H H' ∧ FzL K H' a (ws.map V.str) ∧ FzL K H' D (ws.map fun w => optN (numW w)) ∧ doneW ws = true) ?_ ?_
    · rcases kd with e0 | e0 | e0
      · have vv : valV (mergeK [] [(Sum.inr "change", V.int 6), (Sum.inr "part", .int 5), (Sum.inr "beat", .int 3)]) (Sum.inr (ws.getD 0 "") : Key) = some (.int 6) := by rw [e0]; decide +kernel
        refine ⟨_, rfl, a, _, rfl, .inl a4.sq, fun m hm => ⟨upd_same, [(Sum.inr "change", .int 6), (Sum.inr "part", .int 5), (Sum.inr "beat", .int 3)], rfl, (by show 3 ≤ 15; decide), ?_⟩⟩
        rw [upd_upd]
        have t5 := (Tr.refl H4 []).new (o := .dK (mergeK [] [(Sum.inr "change", V.int 6), (Sum.inr "part", .int 5), (Sum.inr "beat", .int 3)])) hm ndk
        have g5 : Grow H _ := g4.trans t5.tail
        refine ⟨_, rfl, m, _, rfl, .inl ⟨_, _, .inl upd_same, rfl, vv.symm⟩, _, _, rfl, rfl, _, rfl, ite2 (fun c1 => ?_) fun c1 => ?_⟩
        · refine iteP rfl ⟨_, rfl, a, _, rfl, .inl (a4.mono t5.mono).sq, ⟨(by show 2 ≤ sizeLine; decide), fun t ht => short ?_ g5 ht⟩⟩
          have := of_decide_eq_true c1
          rw [hlen] at this
          unfold doneW
          rw [if_pos e0]
          exact decide_eq_false (by omega)
        · refine ⟨_, rfl, rfl, _, rfl, iteM (fun z => change_np (e0.symm.trans (eqS z))) (iteM (by decide) ⟨rfl, g5, a4.mono t5.mono, f4.mono t5.mono, ?_⟩)⟩
          have h6 : 6 ≤ ws.length := by
            rcases Nat.lt_or_ge ws.length 6 with q | q
            · exact absurd (decide_eq_true (show (((ws.map V.str).length : Nat) : Int) < 6 by rw [hlen]; omega)) c1
            · exact q
          have h7 : ¬ 6 < ws.length := fun z => by
            have := hall 6 z
            rw [right_gd, decide_eq_true ⟨e0, by decide⟩] at this
            simp at this
          unfold doneW
          rw [if_pos e0]
          exact decide_eq_true (by omega)
      · have n0 : ¬ ws.getD 0 "" = "change" := fun z => change_np (z.symm.trans e0)
        have vv : valV (mergeK [] [(Sum.inr "change", V.int 6), (Sum.inr "part", .int 5), (Sum.inr "beat", .int 3)]) (Sum.inr (ws.getD 0 "") : Key) = some (.int 5) := by rw [e0]; decide +kernel
        refine ⟨_, rfl, a, _, rfl, .inl a4.sq, fun m hm => ⟨upd_same, [(Sum.inr "change", .int 6), (Sum.inr "part", .int 5), (Sum.inr "beat", .int 3)], rfl, (by show 3 ≤ 15; decide), ?_⟩⟩
        rw [upd_upd]
        have t5 := (Tr.refl H4 []).new (o := .dK (mergeK [] [(Sum.inr "change", V.int 6), (Sum.inr "part", .int 5), (Sum.inr "beat", .int 3)])) hm ndk
        have g5 : Grow H _ := g4.trans t5.tail
        refine ⟨_, rfl, m, _, rfl, .inl ⟨_, _, .inl upd_same, rfl, vv.symm⟩, _, _, rfl, rfl, _, rfl, ite2 (fun c1 => ?_) fun c1 => ?_⟩
        · refine iteP rfl ⟨_, rfl, a, _, rfl, .inl (a4.mono t5.mono).sq, ⟨(by show 2 ≤ sizeLine; decide), fun t ht => short ?_ g5 ht⟩⟩
          have := of_decide_eq_true c1
          rw [hlen] at this
          unfold doneW
          rw [if_neg n0, if_pos e0, decide_eq_false (by omega)]
          rfl
        · have h5 : 4 < ws.length := by
            rcases Nat.lt_or_ge 4 ws.length with q | q
            · exact q
            · exact absurd (decide_eq_true (show (((ws.map V.str).length : Nat) : Int) < 5 by rw [hlen]; omega)) c1
          refine ⟨_, rfl, rfl, _, rfl, iteP (decide_eq_true (congrArg V.str e0)) ⟨_, rfl, a, _, rfl, .inl (a4.mono t5.mono).sq, _, _, rfl, rfl, (by show (0 : Int) < 2; decide), rfl, _, rfl, ite2 (fun c2 => ?_) fun c2 => ?_⟩⟩
          · refine ⟨_, rfl, a, _, rfl, .inl (a4.mono t5.mono).sq, ⟨(by show 2 ≤ sizeLine; decide), fun t ht => short ?_ g5 ht⟩⟩
            have c2 : decide (V.int ((((ws.map V.str).length : Nat) : Int) % 2) = V.int 0) = true := c2
            rw [evn, hlen] at c2
            unfold doneW
            rw [if_neg n0, if_pos e0, decide_eq_false (show ¬ ws.length % 2 = 1 by have := of_decide_eq_true c2; omega), Bool.and_false]
          · refine ⟨rfl, g5, a4.mono t5.mono, f4.mono t5.mono, ?_⟩
            have c2 : ¬ decide (V.int ((((ws.map V.str).length : Nat) : Int) % 2) = V.int 0) = true := c2
            rw [evn, hlen] at c2
            unfold doneW
            rw [if_neg n0, if_pos e0, decide_eq_true h5, decide_eq_true (show ws.length % 2 = 1 by have : ¬ ws.length % 2 = 0 := fun z => c2 (decide_eq_true z); omega)]
            rfl
      · have n0 : ¬ ws.getD 0 "" = "change" := fun z => beat_ne (e0.symm.trans z)
        have n1 : ¬ ws.getD 0 "" = "part" := fun z => beat_ne2 (e0.symm.trans z)
        have vv : valV (mergeK [] [(Sum.inr "change", V.int 6), (Sum.inr "part", .int 5), (Sum.inr "beat", .int 3)]) (Sum.inr (ws.getD 0 "") : Key) = some (.int 3) := by rw [e0]; decide +kernel
        refine ⟨_, rfl, a, _, rfl, .inl a4.sq, fun m hm => ⟨upd_same, [(Sum.inr "change", .int 6), (Sum.inr "part", .int 5), (Sum.inr "beat", .int 3)], rfl, (by show 3 ≤ 15; decide), ?_⟩⟩
        rw [upd_upd]
        have t5 := (Tr.refl H4 []).new (o := .dK (mergeK [] [(Sum.inr "change", V.int 6), (Sum.inr "part", .int 5), (Sum.inr "beat", .int 3)])) hm ndk
        have g5 : Grow H _ := g4.trans t5.tail
        refine ⟨_, rfl, m, _, rfl, .inl ⟨_, _, .inl upd_same, rfl, vv.symm⟩, _, _, rfl, rfl, _, rfl, ite2 (fun c1 => ?_) fun c1 => ?_⟩
        · refine iteP rfl ⟨_, rfl, a, _, rfl, .inl (a4.mono t5.mono).sq, ⟨(by show 2 ≤ sizeLine; decide), fun t ht => short ?_ g5 ht⟩⟩
          have := of_decide_eq_true c1
          rw [hlen] at this
          unfold doneW
          rw [if_neg n0, if_neg n1]
          exact decide_eq_false (by omega)
        · refine ⟨_, rfl, rfl, _, rfl, iteM (fun z => n1 (eqS z)) (iteM (by decide) ⟨rfl, g5, a4.mono t5.mono, f4.mono t5.mono, ?_⟩)⟩
          unfold doneW
          rw [if_neg n0, if_neg n1]
          refine decide_eq_true ?_
          rcases Nat.lt_or_ge 2 ws.length with q | q
          · exact q
          · exact absurd (decide_eq_true (show (((ws.map V.str).length : Nat) : Int) < 3 by rw [hlen]; omega)) c1
    rintro _ H5 ⟨rfl, g5, a5, f5, hd⟩
    have kk : ∀ v H', Grow H H' → Rp K H' (letD ws) v → Q v H' := fun v H' g r => by
      refine k v H' g ?_
      unfold dueD
      rw [badW_none hall hd]
      exact r
    have nn : ∀ {i : Nat}, i < ws.length → i ≠ 0 → ¬(ws.getD 0 "" = "change" ∧ i = 3) → atI (ws.map fun w => optN (numW w)) (i : Int) = some (.int (numD (ws.getD i ""))) := fun {i} h1 h2 h3 => by
      rw [nx h1, right_num (hall i h1) h2 h3]
      rfl
    have hn : (ws.map fun w => optN (numW w)).length = ws.length := List.length_map ..
    refine ⟨_, rfl, rfl, _, rfl, ite2 (fun c1 => ?_) fun c1 => ?_⟩
    · have e0 := eqS c1
      have h6 : ws.length = 6 := by
        unfold doneW at hd
        rw [if_pos e0] at hd
        exact of_decide_eq_true hd
      refine ⟨_, rfl, ?_⟩
      refine ⟨_, rfl, D, _, 1, _, rfl, rfl, f5.sq, nn (i := 1) (by omega) (by decide) (fun z => absurd z.2 (by decide)), ?_⟩
      refine ⟨_, rfl, D, _, 2, _, rfl, rfl, f5.sq, nn (i := 2) (by omega) (by decide) (fun z => absurd z.2 (by decide)), ?_⟩
      refine ⟨_, rfl, a, _, 3, _, rfl, rfl, a5.sq, ixS (i := 3) (by omega), ?_⟩
      refine ⟨_, rfl, D, _, 4, _, rfl, rfl, f5.sq, nn (i := 4) (by omega) (by decide) (fun z => absurd z.2 (by decide)), ?_⟩
      refine ⟨_, rfl, D, _, 5, _, rfl, rfl, f5.sq, nn (i := 5) (by omega) (by decide) (fun z => absurd z.2 (by decide)), ⟨(by show 6 ≤ sizeLine; decide), fun t ht => ?_⟩⟩
      refine kk _ _ (g5.old ht) ?_
      unfold letD
      rw [if_pos e0, ← e0]
      exact .tup upd_same (.cons .str (.cons .int (.cons .int (.cons .str (.cons .int (.cons .int .nil))))))
    have n0 := neS c1
    refine ⟨_, rfl, rfl, _, rfl, ite2 (fun c2 => ?_) fun c2 => ?_⟩
    · have e0 := eqS c2
      have h3 : 2 < ws.length := by
        unfold doneW at hd
        rw [if_neg n0, if_neg (fun z => beat_ne2 (e0.symm.trans z))] at hd
        exact of_decide_eq_true hd
      refine ⟨_, rfl, ?_⟩
      refine ⟨_, rfl, D, _, 1, _, rfl, rfl, f5.sq, nn (i := 1) (by omega) (by decide) (fun z => n0 z.1), ?_⟩
      refine ⟨_, rfl, _, rfl, D, _, rfl, f5.sq, fun q2 hq2 => ?_⟩
      have ecut2 : cutV (ws.map fun w => optN (numW w)) (some (2 : Int)) none = (ws.drop 2).map fun w => V.int (numD w) := by
        rw [show (some (2 : Int)) = some ((2 : Nat) : Int) from rfl, cutV_from (by rw [hn]; omega), ← List.map_drop]
        refine List.map_congr_left fun w hw => ?_
        obtain ⟨j, hj⟩ := List.getElem?_of_mem hw
        rw [List.getElem?_drop] at hj
        have hj' := (List.getElem?_eq_some_iff.mp hj).1
        have := right_num (hall (2 + j) hj') (by omega) (fun z => n0 z.1)
        rw [getD_of hj] at this
        rw [this]
        rfl
      rw [ecut2]
      refine ⟨q2, _, rfl, .inl ⟨SqL.of upd_same, fun l hl => ⟨(by show 3 ≤ sizeLine; decide), fun t ht => ?_⟩⟩⟩
      refine kk _ _ (((g5.old hq2).old hl).old ht) ?_
      unfold letD
      rw [if_neg n0, if_pos e0, ← e0]
      refine .tup upd_same (.cons .str (.cons .int (.cons (.tup ((Mono.new ht) _ _ upd_same trivial) ?_) .nil)))
      have e : (ws.drop 2).map (fun w => PyData.int (numD w)) = ((ws.drop 2).map numD).map PyData.int := by
        rw [List.map_map]
        rfl
      have e2 : (ws.drop 2).map (fun w => V.int (numD w)) = ((ws.drop 2).map numD).map V.int := by
        rw [List.map_map]
        rfl
      rw [e, e2]
      exact RpL.of_ints _
    · have n2 := neS c2
      have e0 : ws.getD 0 "" = "part" := by
        rcases kd with h | h | h
        · exact absurd h n0
        · exact h
        · exact absurd h n2
      have h4 : 4 < ws.length ∧ ws.length % 2 = 1 := by
        unfold doneW at hd
        rw [if_neg n0, if_pos e0] at hd
        simpa using hd
      obtain ⟨r, er⟩ : ∃ r, ws.length = 2 * r + 3 := ⟨(ws.length - 3) / 2, by omega⟩
      refine ⟨_, rfl, ?_⟩
      refine ⟨_, rfl, D, _, 1, _, rfl, rfl, f5.sq, nn (i := 1) (by omega) (by decide) (fun z => n0 z.1), ?_⟩
      refine ⟨_, rfl, D, _, 2, _, rfl, rfl, f5.sq, nn (i := 2) (by omega) (by decide) (fun z => n0 z.1), ?_⟩
      refine ⟨_, rfl, a, _, rfl, .inl a5.sq, 3, ((3 + 2 * r : Nat) : Int), 2, r, ?_, rg2 3 r (by decide) (by omega), fun D2 hD2 => ?_⟩
      · rw [hlen, show ws.length = 3 + 2 * r by omega]
      have ng : ∀ j, j + 3 < ws.length → ((ws.drop 3).map numD)[j]? = some (numD (ws.getD (j + 3) "")) := fun j h => by
        rw [List.getElem?_map, List.getElem?_drop, Nat.add_comm 3 j, getD_at h]
        rfl
      refine lc_it (walk_rangeC (lo := 3) (c := 2) (n := r)) (fun i H6 => ∃ xs, Tr H5 [] H6 [(D2, .lst xs)] ∧ RpL K H6 (((pairs ((ws.drop 3).map numD)).take i).map fun r => PyData.tuple [.int r.1, .int r.2]) xs)
        ⟨[], (Tr.refl H5 []).new hD2 nl, .nil⟩ (fun _ _ _ _ => trivial) ?_ ?_
      · rintro i v H6 H7 hi ⟨xs, t6, rx⟩ ⟨rfl, rfl⟩
        have f6 := f5.mono t6.mono
        have ea : ((3 : Int) + (i : Nat) * 2) = ((2 * i + 3 : Nat) : Int) := by omega
        have eb : ((3 : Int) + (i : Nat) * 2) + 1 = ((2 * i + 1 + 3 : Nat) : Int) := by omega
        refine ⟨rfl, ?_⟩
        refine ⟨_, rfl, _, rfl, D, _, _, _, rfl, rfl, f6.sq, (by rw [ea]; exact nn (by omega) (by omega) (fun z => n0 z.1)), ?_⟩
        refine ⟨_, rfl, _, rfl, _, _, rfl, rfl, D, _, _, _, rfl, rfl, f6.sq, (by rw [eb]; exact nn (by omega) (by omega) (fun z => n0 z.1)), ⟨(by show 2 ≤ sizeLine; decide), fun t ht => ?_⟩⟩
        obtain ⟨s3, r3⟩ := snoc_tup (K := K) (ds := [.int (numD (ws.getD (2 * i + 3) "")), .int (numD (ws.getD (2 * i + 1 + 3) ""))]) t6.own ht (.cons .int (.cons .int .nil))
        have ep := pairs_get (ng (2 * i) (by omega)) (ng (2 * i + 1) (by omega))
        have hx : xs.length ≤ 1000 := by rw [rx.length, List.length_map, List.length_take]; omega
        refine ⟨xs, by rw [upd_ne (ne_of_none t6.own.head ht)]; exact t6.own.head, small1000 hx, xs ++ [.ref t], t6.trans s3, ?_⟩
        rw [take_snoc ep, List.map_append]
        exact (rx.mono s3.mono).snoc r3
      · rintro H6 ⟨xs, t6, rx⟩
        rw [List.take_of_length_le (by rw [pairs_len, List.length_map, List.length_drop]; omega)] at rx
        refine ⟨D2, _, rfl, .inl ⟨SqL.of t6.own.head, fun l hl => ⟨(by show 4 ≤ sizeLine; decide), fun t ht => ?_⟩⟩⟩
        refine kk _ _ (g5.trans ((t6.old hl).old ht).tail) ?_
        unfold letD
        rw [if_neg n0, if_neg n2, ← e0]
        exact .tup upd_same (.cons .str (.cons .int (.cons .int (.cons (.tup ((Mono.new ht) _ _ upd_same trivial) (rx.mono ((Mono.new hl).trans (Mono.new ht)))) .nil))))
end
end Cu

namespace Cu
open PySem PySem.Spec PyProof.Rows L2
open TL (tl)
def GoodW (ws : List Str) : Prop := ∀ w ∈ ws, (w.length ≤ 10 ∧ ∀ c ∈ tl w, c < 128) ∧ (32 : Nat) ∉ tl w
theorem GoodW.append {a b : List Str} (ha : GoodW a) (hb : GoodW b) : GoodW (a ++ b) := fun w hw => by
  rcases List.mem_append.mp hw with h | h
  · exact ha w h
  · exact hb w h
theorem GoodW.take {a : List Str} (ha : GoodW a) (n : Nat) : GoodW (a.take n) := fun w hw => ha w (List.mem_of_mem_take hw)
theorem GoodW.drop {a : List Str} (ha : GoodW a) (n : Nat) : GoodW (a.drop n) := fun w hw => ha w (List.mem_of_mem_drop hw)
theorem GoodW.one {w : Str} {a : List Str} (ha : GoodW a) (h : w ∈ a) : GoodW [w] := fun v hv => by
  rw [List.mem_singleton.mp hv]
  exact ha w h
theorem take_min' {α : Type} (xs : List α) (k : Nat) : xs.take (min k xs.length) = xs.take k := by
  rcases Nat.le_total k xs.length with h | h
  · rw [Nat.min_eq_left h]
  · rw [Nat.min_eq_right h, List.take_length, List.take_of_length_le h]
theorem drop_min' {α : Type} (xs : List α) (k : Nat) : xs.drop (min k xs.length) = xs.drop k := by
  rcases Nat.le_total k xs.length with h | h
  · rw [Nat.min_eq_left h]
  · rw [Nat.min_eq_right h, List.drop_length, List.drop_eq_nil_of_le h]
theorem cutT (xs : List V) (k : Nat) : cutV xs none (some (k : Int)) = xs.take k := by
  unfold cutV
  rw [HT.sIx_none, HT.sIx_nat, List.drop_zero, Nat.sub_zero, take_min']
theorem cutF (xs : List V) (k : Nat) : cutV xs (some (k : Int)) none = xs.drop k := by
  unfold cutV
  rw [HT.sIx_none, HT.sIx_nat, drop_min', List.take_of_length_le (by rw [List.length_drop]; omega)]
theorem cutM (xs : List V) (k : Nat) : cutV xs (some (k : Int)) (some ((k + 1 : Nat) : Int)) = (xs.drop k).take 1 := by
  unfold cutV
  rw [HT.sIx_nat, HT.sIx_nat, drop_min']
  rcases Nat.lt_or_ge k xs.length with h | h
  · rw [Nat.min_eq_left (by omega), Nat.min_eq_left (by omega), Nat.add_sub_cancel_left]
  · rw [List.drop_eq_nil_of_le h]
    simp
def odd1 : List Str := ["", "-", "-0", "00", "01", "1234567890", "-123456789", "+1", "1.0", "x", "Change", "beats", "part", "beat"]
def odd2 : List Str := ["change", "set", "add", "Add", "0", "1", "--1", "1-", "-7", "999999999"]
theorem odd_good : GoodW (odd1 ++ odd2) := by
  unfold GoodW
  decide +kernel
abbrev s_changed : Stmt := (top 33)
theorem sc_changed : FnScope ["_law_d", "_law_text", "_law_words_here", "_law_at", "_law_odd", "_law_kind"] ["_law_d", "_law_text"] (defScope s_changed) := ⟨rfl, rfl, rfl, by decide +kernel, rfl, by decide +kernel, by decide +kernel⟩

def spChgT (K : PySem.W.Frag) : Sp := fun vs H Q _ => vs.length = 2 ∧ ∃ (a : Addr) (ws : List Str) (R : Lg), vs = [.ref a, .str (Txt.join " " ws)] ∧ GoodW ws ∧ 2 ≤ ws.length ∧ ws.length ≤ 50 ∧ Dice K H a R ∧
  ∀ ws' H', GoodW ws' → ws.length ≤ ws'.length + 1 → ws'.length ≤ ws.length + 1 → Mono H H' → Dice K H' a R → Q (.str (Txt.join " " ws')) H'
section
variable {P : Program} {w : World} {K : PySem.W.Frag} {mg : Str → Option Value} {base : Heap}
theorem ok_chgT (F : Fd K mg "_law_changed" s_changed) (Bm : Blt mg) (g_next : Gf P w K mg base 1 "_law_next" ["_law_dice_here", "_law_many"] (spNext K)) : Gf P w K mg base 2 "_law_changed" ["_law_d", "_law_text"] (spChgT K) := by
  refine F.ok sc_changed (fun _ _ _ _ _ _ us hl => match us, hl with | [_, _], _ => rfl) len_of fun qual f cdv A0 outer s H vs Q E hr h => ?_
  obtain ⟨_, a, ws, R, rfl, gw, h2, h50, d, k⟩ := h
  refine ⟨_, (pss_cons (ps_set (i := 2) sc_changed.nd rfl (Or.inl rfl) (pe_fz (pe_split (pv 1) pe_str)))
      (pss_cons (ps_set (i := 3) sc_changed.nd rfl (Or.inl rfl) (pc g_next hr (pa_cons (pv 0) (pa_cons (pe_op op_add (pe_callB call_len_seq rfl Bm.len (by decide +kernel) (pa_cons (pv 2) pa_nil)) pe_int) pa_nil))))
      (pss_cons (ps_set (i := 4) sc_changed.nd rfl (Or.inl rfl) (pe_lst (pa_cons pe_str (pa_cons pe_str (pa_cons pe_str (pa_cons pe_str (pa_cons pe_str (pa_cons pe_str (pa_cons pe_str (pa_cons pe_str (pa_cons pe_str (pa_cons pe_str (pa_cons pe_str (pa_cons pe_str (pa_cons pe_str (pa_cons pe_str pa_nil))))))))))))))))
      (pss_cons (ps_set (i := 4) sc_changed.nd rfl (Or.inl rfl) (pe_op op_cat (pv 4) (pe_lst (pa_cons pe_str (pa_cons pe_str (pa_cons pe_str (pa_cons pe_str (pa_cons pe_str (pa_cons pe_str (pa_cons pe_str (pa_cons pe_str (pa_cons pe_str (pa_cons pe_str pa_nil)))))))))))))
      (pss_cons (ps_set (i := 5) sc_changed.nd rfl (Or.inl rfl) (pc g_next hr (pa_cons (pv 0) (pa_cons pe_int pa_nil))))
      (pss_cons (ps_if (pt_cmpR op_eq (pv 5) pe_int (nomark _))
        (pss_one (ps_ret (pe_join pe_str (pe_op op_cat (pe_slice sl_list (pv 2) po_none (po_some (pv 3))) (pe_slice sl_list (pv 2) (po_some (pe_op op_add (pv 3) pe_int)) po_none)))))
        pss_nil)
      (pss_cons (ps_if (pt_cmpR op_eq (pv 5) pe_int (nomark _))
        (pss_one (ps_ret (pe_join pe_str (pe_op op_cat (pe_op op_cat (pe_slice sl_list (pv 2) po_none (po_some (pv 3))) (pe_slice sl_list (pv 2) (po_some (pv 3)) (po_some (pe_op op_add (pv 3) pe_int)))) (pe_slice sl_list (pv 2) (po_some (pv 3)) po_none)))))
        pss_nil)
      (pss_one (ps_ret (pe_join pe_str (pe_op op_cat (pe_op op_cat (pe_slice sl_list (pv 2) po_none (po_some (pv 3))) (pe_lst (pa_cons (pe_ix ix_list (pv 4) (pc g_next hr (pa_cons (pv 0) (pa_cons (pe_callB call_len_seq rfl Bm.len (by decide +kernel) (pa_cons (pv 4) pa_nil)) pa_nil))) (fun _ _ => rfl)) pa_nil))) (pe_slice sl_list (pv 2) (po_some (pe_op op_sub (pe_op op_add (pv 3) (pv 5)) pe_int)) po_none)))))))))))), ?_⟩
  have hlen : (ws.map V.str).length = ws.length := List.length_map ..
  have jl := joined_len fun w hw => (gw w hw).1.1
  have hts : (Txt.join " " ws).length + 2 ≤ sizeLine := Nat.le_trans (show (Txt.join " " ws).length + 2 ≤ 1000 by omega) (by decide)
  refine rd_fz ⟨_, rfl, ⟨_, rfl⟩, _, " ", rfl, rfl, (by decide +kernel), hts, fun p hp => ⟨p, _, rfl, upd_same, fun o => ?_⟩⟩
  have esp : Txt.split (Txt.join " " ws) " " = ws := split_words (fun z => by rw [z] at h2; simp at h2) fun w hw => (gw w hw).2
  rw [esp]
  have g1 := (Grow.refl H).nfz (xs := ws.map V.str) (ob := o) hp
  have f1 : FzL K (upd (upd H p (.lst (ws.map V.str))) p (.frz o (.lst (ws.map V.str)))) p (ws.map V.str) := FzL.frz
  generalize (upd (upd H p (.lst (ws.map V.str))) p (.frz o (.lst (ws.map V.str)))) = H1 at g1 f1
  have d1 := d.grow g1
  -- at = next(d, len(words) + 1)
  refine ⟨_, rfl, _, rfl, p, _, rfl, .inl f1.sq, _, _, rfl, rfl, rfl, a, ((ws.length : Int) + 1), R, (by rw [hlen]; rfl), by omega, by omega, d1, fun r2 H2 p2 q2 m2 d2 => ?_⟩
  obtain ⟨at_, rfl, hat⟩ : ∃ n : Nat, r2 = n ∧ n ≤ ws.length := ⟨r2.toNat, by omega, by omega⟩
  -- odd
  refine ⟨(by show 14 ≤ sizeLine; decide), fun q1 hq1 => ?_⟩
  have d3 : Dice K _ a ((q1, .lst (odd1.map V.str)) :: R) := d2.new (o := .lst (odd1.map V.str)) hq1 nl
  refine ⟨_, rfl, (by show 10 ≤ sizeLine; decide), fun q2' hq2 => ?_⟩
  have d4 : Dice K _ a ((q2', .lst (odd2.map V.str)) :: (q1, .lst (odd1.map V.str)) :: R) := d3.new (o := .lst (odd2.map V.str)) hq2 nl
  refine ⟨q1, q2', odd1.map V.str, odd2.map V.str, rfl, rfl, d4.has.tail.head, d4.has.head, (by show 14 + 10 ≤ sizeLine; decide), fun q3 hq3 => ?_⟩
  have eo : odd1.map V.str ++ odd2.map V.str = (odd1 ++ odd2).map V.str := (List.map_append ..).symm
  rw [eo] at *
  have d5 : Dice K _ a ((q3, .lst ((odd1 ++ odd2).map V.str)) :: (q2', .lst (odd2.map V.str)) :: (q1, .lst (odd1.map V.str)) :: R) := d4.new (o := .lst ((odd1 ++ odd2).map V.str)) hq3 nl
  have m5 := (((g1.mono.trans m2).trans (Mono.new (o := .lst (odd1.map V.str)) hq1)).trans (Mono.new (o := .lst (odd2.map V.str)) hq2)).trans (Mono.new (o := .lst ((odd1 ++ odd2).map V.str)) hq3)
  have f5 := (((f1.mono m2).mono (Mono.new (o := .lst (odd1.map V.str)) hq1)).mono (Mono.new (o := .lst (odd2.map V.str)) hq2)).mono (Mono.new (o := .lst ((odd1 ++ odd2).map V.str)) hq3)
  -- kind
  refine ⟨_, rfl, rfl, a, 4, _, rfl, by decide, by decide, d5, fun r6 H6 p6 q6 m6 d6 => ?_⟩
  have f6 := f5.mono m6
  have m6' := m5.trans m6
  have fin : ∀ (ws' : List Str) (H' : Hp) (q : Addr) (L : Lg), GoodW ws' → ws.length ≤ ws'.length + 1 → ws'.length ≤ ws.length + 1 → Mono H H' → Dice K H' a ((q, .lst (ws'.map V.str)) :: (L ++ R)) →
      SqL K H' q (ws'.map V.str) ∧ (ws'.map (·.length)).sum + ws'.length * (Str.length " ") ≤ 16777216 ∧ Q (.str (Txt.join " " ws')) H' := fun ws' H' q L gw' l1 l2 m d => by
    refine ⟨SqL.of d.has.head, join_sz (fun w hw => (gw' w hw).1.1) (by omega), k ws' H' gw' l1 l2 m ?_⟩
    exact d.sub ((List.sublist_append_right L R).trans (List.sublist_cons_self _ _))
  have sz : ∀ {n : Nat}, n ≤ 1000 → n ≤ sizeLine := fun h => Nat.le_of_lt (small1000 h)
  refine ⟨_, rfl, rfl, _, rfl, ite2 (fun c0 => ?_) fun c0 => ?_⟩
  · -- a word is left out
    refine ⟨⟨" ", rfl⟩, ?_⟩
    refine ⟨_, rfl, _, rfl, _, rfl, p, _, rfl, f6.sq, fun e1 he1 => ?_⟩
    rw [cutT, ← List.map_take]
    have d7 := d6.new (o := .lst ((ws.take at_).map V.str)) he1 nl
    refine ⟨_, rfl, _, rfl, _, _, rfl, rfl, _, rfl, p, _, rfl, (f6.mono (Mono.new he1)).sq, fun e2 he2 => ?_⟩
    rw [show (at_ : Int) + 1 = ((at_ + 1 : Nat) : Int) by omega, cutF, ← List.map_drop]
    have d8 := d7.new (o := .lst ((ws.drop (at_ + 1)).map V.str)) he2 nl
    refine ⟨e1, e2, _, _, rfl, rfl, d8.has.tail.head, d8.has.head, sz (by rw [List.length_map, List.length_map, List.length_take, List.length_drop]; omega), fun e3 he3 => ?_⟩
    rw [← List.map_append]
    have d9 := d8.new (o := .lst ((ws.take at_ ++ ws.drop (at_ + 1)).map V.str)) he3 nl
    obtain ⟨f1', f2', f3'⟩ := fin (ws.take at_ ++ ws.drop (at_ + 1)) _ e3 [(e2, .lst ((ws.drop (at_ + 1)).map V.str)), (e1, .lst ((ws.take at_).map V.str)), (q3, .lst ((odd1 ++ odd2).map V.str)), (q2', .lst (odd2.map V.str)), (q1, .lst (odd1.map V.str))] ((gw.take _).append (gw.drop _))
      (by rw [List.length_append, List.length_take, List.length_drop]; omega) (by rw [List.length_append, List.length_take, List.length_drop]; omega) (((m6'.trans (Mono.new he1)).trans (Mono.new he2)).trans (Mono.new he3)) d9
    exact ⟨" ", e3, _, rfl, rfl, .inl f1', f2', f3'⟩
  refine ⟨_, rfl, rfl, _, rfl, ite2 (fun c1 => ?_) fun c1 => ?_⟩
  · -- told twice
    refine ⟨⟨" ", rfl⟩, ?_⟩
    refine ⟨_, rfl, _, rfl, _, rfl, p, _, rfl, f6.sq, fun e1 he1 => ?_⟩
    rw [cutT, ← List.map_take]
    have d7 := d6.new (o := .lst ((ws.take at_).map V.str)) he1 nl
    refine ⟨_, rfl, _, rfl, _, rfl, _, rfl, _, _, rfl, rfl, _, rfl, p, _, rfl, (f6.mono (Mono.new he1)).sq, fun e2 he2 => ?_⟩
    rw [show (at_ : Int) + 1 = ((at_ + 1 : Nat) : Int) by omega, cutM, ← List.map_drop, ← List.map_take]
    have d8 := d7.new (o := .lst (((ws.drop at_).take 1).map V.str)) he2 nl
    refine ⟨e1, e2, _, _, rfl, rfl, d8.has.tail.head, d8.has.head, sz (by rw [List.length_map, List.length_map, List.length_take, List.length_take, List.length_drop]; omega), fun e3 he3 => ?_⟩
    rw [← List.map_append]
    have d9 := d8.new (o := .lst ((ws.take at_ ++ (ws.drop at_).take 1).map V.str)) he3 nl
    refine ⟨_, rfl, _, rfl, _, rfl, p, _, rfl, (((f6.mono (Mono.new he1)).mono (Mono.new he2)).mono (Mono.new he3)).sq, fun e4 he4 => ?_⟩
    rw [cutF, ← List.map_drop]
    have d10 := d9.new (o := .lst ((ws.drop at_).map V.str)) he4 nl
    refine ⟨e3, e4, _, _, rfl, rfl, d10.has.tail.head, d10.has.head, sz (by rw [List.length_map, List.length_map, List.length_append, List.length_take, List.length_take, List.length_drop]; omega), fun e5 he5 => ?_⟩
    rw [← List.map_append]
    have d11 := d10.new (o := .lst ((ws.take at_ ++ (ws.drop at_).take 1 ++ ws.drop at_).map V.str)) he5 nl
    obtain ⟨f1', f2', f3'⟩ := fin (ws.take at_ ++ (ws.drop at_).take 1 ++ ws.drop at_) _ e5 [(e4, .lst ((ws.drop at_).map V.str)), (e3, .lst ((ws.take at_ ++ (ws.drop at_).take 1).map V.str)), (e2, .lst (((ws.drop at_).take 1).map V.str)), (e1, .lst ((ws.take at_).map V.str)), (q3, .lst ((odd1 ++ odd2).map V.str)), (q2', .lst (odd2.map V.str)), (q1, .lst (odd1.map V.str))] (((gw.take _).append ((gw.drop _).take _)).append (gw.drop _))
      (by rw [List.length_append, List.length_append, List.length_take, List.length_take, List.length_drop]; omega) (by rw [List.length_append, List.length_append, List.length_take, List.length_take, List.length_drop]; omega) (((((m6'.trans (Mono.new he1)).trans (Mono.new he2)).trans (Mono.new he3)).trans (Mono.new he4)).trans (Mono.new he5)) d11
    exact ⟨" ", e5, _, rfl, rfl, .inl f1', f2', f3'⟩
  · -- put in, or put otherwise
    have hk : r6 = 2 ∨ r6 = 3 := by
      have n0 : ¬ r6 = 0 := fun z => c0 (decide_eq_true (congrArg V.int z))
      have n1 : ¬ r6 = 1 := fun z => c1 (decide_eq_true (congrArg V.int z))
      omega
    obtain ⟨j, ej, hj1, hj2⟩ : ∃ j : Nat, (at_ : Int) + r6 - 2 = (j : Int) ∧ at_ ≤ j ∧ j ≤ at_ + 1 := ⟨(at_ + r6 - 2).toNat, by omega, by omega, by omega⟩
    refine ⟨⟨" ", rfl⟩, ?_⟩
    refine ⟨_, rfl, _, rfl, _, rfl, p, _, rfl, f6.sq, fun e1 he1 => ?_⟩
    rw [cutT, ← List.map_take]
    have d7 := d6.new (o := .lst ((ws.take at_).map V.str)) he1 nl
    have d7' := d7.perm (List.Perm.swap _ _ _)
    refine ⟨_, rfl, _, rfl, _, rfl, q3, _, rfl, .inl (SqL.of d7'.has.head), rfl, a, 24, _, rfl, by decide, by decide, d7', fun r8 H8 p8 q8 m8 d8 => ?_⟩
    obtain ⟨o8, rfl, ho8⟩ : ∃ n : Nat, r8 = n ∧ n < 24 := ⟨r8.toNat, by omega, by omega⟩
    have ho9 : o8 < (odd1 ++ odd2).length := ho8
    refine ⟨q3, _, _, _, rfl, rfl, SqL.of d8.has.head, ixS ho9, ⟨(by show 1 ≤ sizeLine; decide), fun e2 he2 => ?_⟩⟩
    have d9 := (d8.perm (List.Perm.swap _ _ _)).new (o := .lst ([(odd1 ++ odd2).getD o8 ""].map V.str)) he2 nl
    refine ⟨e1, e2, _, _, rfl, rfl, d9.has.tail.head, d9.has.head, sz (by rw [List.length_map, List.length_map, List.length_take, List.length_singleton]; omega), fun e3 he3 => ?_⟩
    rw [← List.map_append]
    have d10 := d9.new (o := .lst ((ws.take at_ ++ [(odd1 ++ odd2).getD o8 ""]).map V.str)) he3 nl
    refine ⟨_, rfl, _, rfl, _, rfl, _, _, rfl, rfl, _, _, rfl, rfl, _, rfl, p, _, rfl, ((((f6.mono (Mono.new he1)).mono m8).mono (Mono.new he2)).mono (Mono.new he3)).sq, fun e4 he4 => ?_⟩
    rw [ej, cutF, ← List.map_drop]
    have d11 := d10.new (o := .lst ((ws.drop j).map V.str)) he4 nl
    refine ⟨e3, e4, _, _, rfl, rfl, d11.has.tail.head, d11.has.head, sz (by rw [List.length_map, List.length_map, List.length_append, List.length_take, List.length_singleton, List.length_drop]; omega), fun e5 he5 => ?_⟩
    rw [← List.map_append]
    have d12 := d11.new (o := .lst ((ws.take at_ ++ [(odd1 ++ odd2).getD o8 ""] ++ ws.drop j).map V.str)) he5 nl
    obtain ⟨f1', f2', f3'⟩ := fin (ws.take at_ ++ [(odd1 ++ odd2).getD o8 ""] ++ ws.drop j) _ e5 [(e4, .lst ((ws.drop j).map V.str)), (e3, .lst ((ws.take at_ ++ [(odd1 ++ odd2).getD o8 ""]).map V.str)), (e2, .lst ([(odd1 ++ odd2).getD o8 ""].map V.str)), (e1, .lst ((ws.take at_).map V.str)), (q3, .lst ((odd1 ++ odd2).map V.str)), (q2', .lst (odd2.map V.str)), (q1, .lst (odd1.map V.str))] (((gw.take _).append (odd_good.one (List.mem_of_getElem? (getD_at ho9)))).append (gw.drop _))
      (by rw [List.length_append, List.length_append, List.length_take, List.length_singleton, List.length_drop]; omega) (by rw [List.length_append, List.length_append, List.length_take, List.length_singleton, List.length_drop]; omega) (((((((m6'.trans (Mono.new he1)).trans m8).trans (Mono.new he2)).trans (Mono.new he3)).trans (Mono.new he4)).trans (Mono.new he5))) d12
    exact ⟨" ", e5, _, rfl, rfl, .inl f1', f2', f3'⟩
end
end Cu

namespace Cu
open PySem PySem.Spec PyProof.Rows L2
/-! how wide, how deep letters are -/
theorem cutV_to' {xs : List V} {k : Nat} : cutV xs none (some (k : Int)) = xs.take k := by
  unfold cutV
  rw [HT.sIx_none, HT.sIx_nat, List.drop_zero, Nat.sub_zero]
  by_cases h : k ≤ xs.length
  · rw [Nat.min_eq_left h]
  · rw [Nat.min_eq_right (by omega), List.take_of_length_le (Nat.le_refl _), List.take_of_length_le (by omega)]
theorem widAll_le {n : Nat} : ∀ {ds : List PyData}, (∀ d ∈ ds, wid d ≤ n) → widAll ds ≤ n
  | [], _ => by simp [widAll]
  | d :: ds, h => by
    rw [widAll]
    exact Nat.max_le.mpr ⟨h d List.mem_cons_self, widAll_le fun e he => h e (List.mem_cons_of_mem _ he)⟩
theorem wid_list {ds : List PyData} (h : ds.length ≤ 1000) (g : ∀ d ∈ ds, wid d ≤ 1000) : wid (.list ds) ≤ 1000 := by
  rw [wid]
  exact Nat.max_le.mpr ⟨h, widAll_le g⟩
theorem wid_tup {ds : List PyData} (h : ds.length ≤ 1000) (g : ∀ d ∈ ds, wid d ≤ 1000) : wid (.tuple ds) ≤ 1000 := by
  rw [wid]
  exact Nat.max_le.mpr ⟨h, widAll_le g⟩
theorem wid_ilst {ns : List Int} (h : ns.length ≤ 1000) : wid (ilst ns) ≤ 1000 := wid_list (by rw [List.length_map]; exact h) fun d hd => by
  obtain ⟨i, _, rfl⟩ := List.mem_map.mp hd
  simp [wid]
theorem Gd.chg1 {n ah : Nat} {c : Ch} : Gd 1 (Letter.enc (.change n c ah)) := .tuple (.all_cons (.str (by decide +kernel)) (.all_cons .int (.all_cons .int (.all_cons (.str (wd_ok _)) (.all_cons .int (.all_cons .int .all_nil))))))
theorem Gd.letter3 (l : Letter) : Gd 3 l.enc := by
  cases l with
  | change n c ahead => exact Gd.chg1.mono (by decide)
  | part n b rows =>
    refine .tuple (.all_cons (.str (by decide +kernel)) (.all_cons .int (.all_cons .int (.all_cons (.tuple fun d hd => ?_) .all_nil))))
    obtain ⟨r, _, rfl⟩ := List.mem_map.mp hd
    exact .tuple (.all_cons .int (.all_cons .int .all_nil))
  | beat n lasts =>
    refine .tuple (.all_cons (.str (by decide +kernel)) (.all_cons .int (.all_cons (.tuple fun d hd => ?_) .all_nil)))
    obtain ⟨r, _, rfl⟩ := List.mem_map.mp hd
    exact .int
theorem wid_part {n b : Nat} {rows : List (Int × Nat)} (h : rows.length ≤ 1000) : wid (Letter.enc (.part n b rows)) ≤ 1000 := wid_tup (by show 4 ≤ 1000; decide) fun d hd => by
  simp only [List.mem_cons, List.not_mem_nil, or_false] at hd
  rcases hd with rfl | rfl | rfl | rfl
  · simp [wid]
  · simp [wid]
  · simp [wid]
  · refine wid_tup (by rw [List.length_map]; exact h) fun d hd => ?_
    obtain ⟨r, _, rfl⟩ := List.mem_map.mp hd
    simp [wid, widAll]
theorem wid_beat {n : Nat} {lasts : List Nat} (h : lasts.length ≤ 1000) : wid (Letter.enc (.beat n lasts)) ≤ 1000 := wid_tup (by show 3 ≤ 1000; decide) fun d hd => by
  simp only [List.mem_cons, List.not_mem_nil, or_false] at hd
  rcases hd with rfl | rfl | rfl
  · simp [wid]
  · simp [wid]
  · refine wid_tup (by rw [List.length_map]; exact h) fun d hd => ?_
    obtain ⟨r, _, rfl⟩ := List.mem_map.mp hd
    simp [wid]
theorem wid_chg {n ah : Nat} {c : Ch} : wid (Letter.enc (.change n c ah)) ≤ 1000 := by simp [Letter.enc, wid, widAll]
end Cu

namespace Cu
open PySem PySem.Spec PyProof.Rows L2
open TL (tl)
/-- the script's list, frozen from now on if it was not; the table stays -/
theorem rd_script {K : PySem.W.Frag} {H : Hp} {a Pt : Addr} {i : Nat} {σ : L2.St} {xs : List V} {ps : Array Value} {Q : VK} (hv : σ[i]? = some (some (.ref a))) (hS : SqL K H a xs) (hP : H Pt = some (.tbl ps))
    (k : ∀ H0, FzL K H0 a xs → H0 Pt = some (.tbl ps) → Q (.ref a) H0) : tFzw (tVar i) σ H Q := by
  refine rd_fzw ⟨_, hv, ?_⟩
  rcases sq_fz hS with hF | hL
  · exact .inl (k H hF hP)
  · refine .inr ⟨a, xs, hL, fun o => k _ FzL.frz ?_⟩
    have : Pt ≠ a := fun z => by
      rw [z, hL] at hP
      cases hP
    rw [upd_ne this]
    exact hP
theorem rd_read10 {C : Addr} {K : PySem.W.Frag} {ws : List Str} (hne : 0 < ws.length) (h9 : ws.length ≤ 100) (hw : GoodW ws) {H : Hp} {Q : VK} {E : XK}
    (he : ∀ n, badW ws = some n → ∀ d H', Grow H H' → H' d = some (xdT n) → E (.ref C) (some d) H') (hq : badW ws = none → ∀ v H', Grow H H' → Rp K H' (letD ws) v → Q v H') :
    spRead K C [.str (Txt.join " " ws)] H Q E := by
  refine ⟨rfl, _, ws, rfl, ?_, split_words (fun z => by rw [z] at hne; simp at hne) fun w hw' => (hw w hw').2, hne, by omega, fun w hw' => WdOk.of (hw w hw').1, he, hq⟩
  have := joined_len fun w hw' => (hw w hw').1.1
  omega
abbrev lamQ : Str := (("law" : Str) ++ (".<locals>." : Str)) ++ ("<lambda>" : Str)
theorem joinL_signs : ∀ {ps : List (List Nat)}, (∀ p ∈ ps, ∀ c ∈ p, c < 128) → ∀ c ∈ TL.joinL [32] ps, c < 128
  | [], _, _, hc => by simp [TL.joinL] at hc
  | [p], h, c, hc => h p List.mem_cons_self c hc
  | p :: q :: r, h, c, hc => by
    have e : TL.joinL [32] (p :: q :: r) = p ++ ([32] ++ TL.joinL [32] (q :: r)) := rfl
    rw [e] at hc
    rcases List.mem_append.mp hc with hc | hc
    · exact h p List.mem_cons_self c hc
    · rcases List.mem_append.mp hc with hc | hc
      · rw [List.mem_singleton.mp hc]
        decide
      · exact joinL_signs (fun p hp => h p (List.mem_cons_of_mem _ hp)) c hc
theorem joined_signs {ws : List Str} (h : GoodW ws) : ∀ c ∈ tl (Txt.join " " ws), c < 128 := by
  have e : tl (" " : Str) = [32] := by decide +kernel
  rw [TL.join_eq, TL.tl_join, e]
  refine joinL_signs fun p hp => ?_
  obtain ⟨w, hw, rfl⟩ := List.mem_map.mp hp
  exact (h w hw).1.2
theorem words_gw {l : Letter} (h : Small l) : GoodW (wordsL l) := fun w hw => ⟨words_ok h w hw, wordsL_free l w hw⟩
theorem told_read10 {K : PySem.W.Frag} {mg : Str → Option Value} {Gs : Kx mg} {ws : List Str} (hne : 0 < ws.length) (h9 : ws.length ≤ 100) (hw : GoodW ws) (xo : XOf K Gs Gs.cBadText 6) {H : Hp} {Q : VK} (k : ∀ v H', Grow H H' → Rp K H' (dueD ws) v → Q v H') :
    spRead K Gs.cBadText [.str (Txt.join " " ws)] H Q (fun cls d H' => ∃ (i : Nat) (D : Addr) (n : Int), i < 7 ∧ cls = .ref D ∧ XOf K Gs D i ∧ HoldsX H' d i n ∧ ∀ v H2, Grow H' H2 → Rp K H2 (toldD i n) v → Q v H2) := by
  refine rd_read10 hne h9 hw (fun n hb d H' g hd => ⟨6, Gs.cBadText, n, by decide, rfl, xo, ⟨fun dd e => ?_, fun z => absurd z (by decide), fun _ => ⟨d, rfl, hd⟩⟩, fun v H2 g2 r => k v H2 (g.trans g2) ?_⟩) (fun hb v H' g r => k v H' g ?_)
  · rw [← Option.some.inj e]
    exact ⟨_, hd⟩
  · unfold dueD
    rw [hb]
    exact r
  · unfold dueD
    rw [hb]
    exact r
theorem str_gd {w : Str} (h : PyData.strOk w = true) : Gd 2 (.str w) := .str h
theorem getD_ok {ws : List Str} (h : GoodW ws) (i : Nat) : PyData.strOk (ws.getD i "") = true := by
  rcases Nat.lt_or_ge i ws.length with hi | hi
  · exact (WdOk.of (h _ (List.mem_of_getElem? (getD_at hi))).1).2
  · have : ws.getD i "" = "" := by simp [List.getD, List.getElem?_eq_none hi]
    rw [this]
    decide +kernel
theorem letD_gd {ws : List Str} (h : GoodW ws) (hl : ws.length ≤ 900) : Gd 3 (letD ws) ∧ wid (letD ws) ≤ 1000 := by
  unfold letD
  split
  · exact ⟨.tuple (.all_cons (.str (by decide +kernel)) (.all_cons .int (.all_cons .int (.all_cons (str_gd (getD_ok h 3)) (.all_cons .int (.all_cons .int .all_nil)))))), by simp [wid, widAll]⟩
  · split
    · refine ⟨.tuple (.all_cons (.str (by decide +kernel)) (.all_cons .int (.all_cons (.tuple fun d hd => ?_) .all_nil))), wid_tup (by show 3 ≤ 1000; decide) fun d hd => ?_⟩
      · obtain ⟨r, _, rfl⟩ := List.mem_map.mp hd
        exact .int
      · simp only [List.mem_cons, List.not_mem_nil, or_false] at hd
        rcases hd with rfl | rfl | rfl
        · simp [wid]
        · simp [wid]
        · refine wid_tup (by rw [List.length_map, List.length_drop]; omega) fun d hd => ?_
          obtain ⟨r, _, rfl⟩ := List.mem_map.mp hd
          simp [wid]
    · refine ⟨.tuple (.all_cons (.str (by decide +kernel)) (.all_cons .int (.all_cons .int (.all_cons (.tuple fun d hd => ?_) .all_nil)))), wid_tup (by show 4 ≤ 1000; decide) fun d hd => ?_⟩
      · obtain ⟨r, _, rfl⟩ := List.mem_map.mp hd
        exact .tuple (.all_cons .int (.all_cons .int .all_nil))
      · simp only [List.mem_cons, List.not_mem_nil, or_false] at hd
        rcases hd with rfl | rfl | rfl | rfl
        · simp [wid]
        · simp [wid]
        · simp [wid]
        · refine wid_tup (by rw [List.length_map, pairs_len, List.length_map, List.length_drop]; omega) fun d hd => ?_
          obtain ⟨r, _, rfl⟩ := List.mem_map.mp hd
          simp [wid, widAll]
theorem dueD_gd {ws : List Str} (h : GoodW ws) (hl : ws.length ≤ 900) : Gd 3 (dueD ws) ∧ wid (dueD ws) ≤ 1000 := by
  unfold dueD
  cases badW ws with
  | none => exact letD_gd h hl
  | some n =>
    show Gd 3 (.tuple [.str (kindW 6), .int n]) ∧ wid (.tuple [.str (kindW 6), .int n]) ≤ 1000
    exact ⟨.tuple (.all_cons (.str (by decide +kernel)) (.all_cons .int .all_nil)), by simp [wid, widAll]⟩
theorem small_wid {l : Letter} (h : Small l) : wid l.enc ≤ 1000 := by
  cases l with
  | change n c a => exact wid_chg
  | part n b rows => exact wid_part (by obtain ⟨_, _, _, h8, _⟩ := h; omega)
  | beat n ls => exact wid_beat (by obtain ⟨_, _, h8, _⟩ := h; omega)
abbrev s_law : Stmt := (top 34)
theorem sc_law : FnScope ["_law_script", "_law_d", "_law_keys", "_law_changes_here", "_law_key", "_law_word", "_law_worth_here", "_law_far", "_law_rows", "_law_letters", "_law_turn", "_law_letter_here", "_law_text", "_law_bad", "_law_change"] ["_law_script"] (defScope s_law) := ⟨rfl, rfl, rfl, by decide +kernel, rfl, by decide +kernel, by decide +kernel⟩

section
variable {P : Program} {w : World} {K : PySem.W.Frag} {mg : Str → Option Value} {base : Heap} {c_law P_law : Addr}
theorem ok_law {f : Addr} {fd : FuncData} (F : Fun K "law" "law" s_law f fd) (Bm : Blt mg) (hcode : fd.code = .ref c_law) (TBl : LamX.TabB base mg c_law P_law) (F_told : Fd K mg "_law_told" s_told) (nValueError : mg "ValueError" = none) (Gs : Kx mg)
    (XBadKnown : Xc K Gs.cBadKnown "key") (XBadText : Xc K Gs.cBadText "place") (xo_BadText : XOf K Gs Gs.cBadText 6)
    (g_dice : Gf P w K mg base 1 "_law_dice" ["_law_script"] (spDice K)) (g_next : Gf P w K mg base 1 "_law_next" ["_law_dice_here", "_law_many"] (spNext K)) (g_counts : Gf P w K mg base 2 "_law_counts" ["_law_d"] (spCounts K))
    (g_changes : Gf P w K mg base 3 "_law_changes" ["_law_d", "_law_keys", "_law_most"] (spChanges K)) (g_story : Gf P w K mg base 1 "_law_story" ["_law_keys", "_law_changes_here"] (spStory K)) (g_letter : Gf P w K mg base 2 "_law_letter" ["_law_d", "_law_keys", "_law_rows", "_law_letters"] (spLetter1 K))
    (g_words : Gf P w K mg base 1 "_law_words" ["_law_letter_here"] (spWords K)) (g_written : Gf P w K mg base 2 "written" ["letter"] (spText K)) (g_like : Gf P w K mg base 4 "_law_like" ["_law_found", "_law_due_here"] (spLike K 4))
    (g_read : Gx P w K mg base 3 "read" ["text"] (spRead K Gs.cBadText)) (g_changed : Gf P w K mg base 2 "_law_changed" ["_law_d", "_law_text"] (spChgT K)) (g_due : Gf P w K mg base 2 "_law_due" ["_law_words_here"] (spDue K)) :
    FnOk P w K mg base CX0 6 f fd ["_law_script"] (spLawT K P_law) := by
  refine Cu.Fun.okC F hcode sc_law len_of fun A0 outer s H vs Q E hr h => ?_
  obtain ⟨_, c, ns, rfl, hns, hS, hP, go⟩ := h
  refine ⟨_, (pss_cons (ps_set (i := 1) sc_law.nd rfl (Or.inl rfl) (pc g_dice hr (pa_cons (pe_fzw (pv 0)) pa_nil)))
      (pss_cons (ps_set (i := 2) sc_law.nd rfl (Or.inl rfl) (pe_ix ix_tup (pc g_counts hr (pa_cons (pv 1) pa_nil)) pe_int (fun _ _ => rfl)))
      (pss_cons (ps_set (i := 3) sc_law.nd rfl (Or.inl rfl) (pe_lst pa_nil))
      (pss_cons (ps_for PassesOwn.never rfl (pi_list (pc g_changes hr (pa_cons (pv 1) (pa_cons (pv 2) (pa_cons pe_int pa_nil))))) (pg_tup rfl (pgs_cons (pg_name (i := 4) sc_law.nd rfl (Or.inl rfl)) (pgs_cons (pg_name (i := 5) sc_law.nd rfl (Or.inl rfl)) (pgs_cons (pg_name (i := 6) sc_law.nd rfl (Or.inl rfl)) pgs_nil))))
        (pss_cons (ps_set (i := 7) sc_law.nd rfl (Or.inl rfl) (pe_ix ix_list (pe_lst (pa_cons (pe_op op_pow pe_int pe_int) (pa_cons (pe_op op_mul pe_int (pe_op op_pow pe_int pe_int)) pa_nil))) (pe_callTy call_int1 rfl Bm.int (by decide +kernel) (pa_cons (pe_cmpR op_eq (pv 5) pe_str (nomark _)) pa_nil)) (fun _ _ => rfl)))
        (pss_one (ps_expr (pe_bm PySem.F.plainAttrs_list PySem.F.slot_list_append PySem.F.type_list_append mt_append (pv 3) (pa_cons (pe_tup (pa_cons (pv 4) (pa_cons (pv 5) (pa_cons (pe_op op_sub (pe_op op_mod (pv 6) (pv 7)) (pe_ix ix_list (pe_lst (pa_cons pe_int (pa_cons (pe_op op_sub (pv 7) pe_int) pa_nil))) (pc g_next hr (pa_cons (pv 1) (pa_cons pe_int pa_nil))) (fun _ _ => rfl))) pa_nil)))) pa_nil))))))
      (pss_cons (ps_asg (pc g_story hr (pa_cons (pv 2) (pa_cons (pe_fz (pv 3)) pa_nil))) (pg_tup rfl (pgs_cons (pg_name (i := 8) sc_law.nd rfl (Or.inl rfl)) (pgs_cons (pg_name (i := 9) sc_law.nd rfl (Or.inl rfl)) pgs_nil))))
      (pss_cons (ps_for PassesOwn.never rfl (pi_range1 rfl Bm.range (pa_cons pe_int pa_nil)) (pg_name (i := 10) sc_law.nd rfl (Or.inl rfl))
        (pss_cons (ps_set (i := 11) sc_law.nd rfl (Or.inl rfl) (pc g_letter hr (pa_cons (pv 1) (pa_cons (pv 2) (pa_cons (pv 8) (pa_cons (pv 9) pa_nil))))))
        (pss_cons (ps_mid (ps_if (PW.pt (pw_and (pt_cmpR op_eq (pe_ix ix_tup (pv 11) pe_int (fun _ _ => rfl)) pe_str (nomark _)) (pw_and1 (pt_cmpR op_eq (pc g_next hr (pa_cons (pv 1) (pa_cons pe_int pa_nil))) pe_int (nomark _)))))
          (pss_one (ps_set (i := 11) sc_law.nd rfl (Or.inl rfl) (pe_op op_catT (pe_op op_catT (pe_slice sl_tup (pv 11) po_none (po_some pe_int)) (pe_tup (pa_cons (pe_ix ix_list (pe_lst (pa_cons (pe_op op_sub (pe_op op_pow pe_int pe_int) pe_int) (pa_cons (pe_op op_sub pe_int (pe_op op_pow pe_int pe_int)) (pa_cons pe_int pa_nil)))) (pc g_next hr (pa_cons (pv 1) (pa_cons pe_int pa_nil))) (fun _ _ => rfl)) pa_nil))) (pe_slice sl_tup (pv 11) (po_some pe_int) po_none))))
          pss_nil))
        (pss_cons (ps_set (i := 12) sc_law.nd rfl (Or.inl rfl) (pe_join pe_str (pc g_words hr (pa_cons (pv 11) pa_nil))))
        (pss_cons (ps_if (PW.pt (pw_or (pt_not (pt_val (pc g_like hr (pa_cons (pc g_written hr (pa_cons (pv 11) pa_nil)) (pa_cons (pv 12) pa_nil))))) (pw_or1 (pt_not (pt_val (pc g_like hr (pa_cons (pcx g_read hr (pa_cons (pv 12) pa_nil)) (pa_cons (pv 11) pa_nil))))))))
          (pss_one (ps_ret pe_bl))
          pss_nil)
        (pss_cons (ps_set (i := 13) sc_law.nd rfl (Or.inr rfl) (pv 12))
        (pss_cons (ps_for PassesOwn.never rfl (pi_range1 rfl Bm.range (pa_cons (pe_op op_add pe_int (pc g_next hr (pa_cons (pv 1) (pa_cons pe_int pa_nil)))) pa_nil)) (pg_name (i := 14) sc_law.nd rfl (Or.inl rfl))
          (pss_one (ps_set (i := 13) sc_law.nd rfl (Or.inr rfl) (pc g_changed hr (pa_cons (pv 1) (pa_cons (pv 13) pa_nil))))))
        (pss_cons (ps_if (pt_not (pt_val (pc g_like hr (pa_cons (pl (k := 3) (TT := TTx K Gs) F_told (fun _ _ => told_cx Bm nValueError Gs XBadKnown XBadText) TBl rfl (hr.mono (by decide)) (show LamX.LamS (defScope s_law) _ from LamX.lamS_by (by decide +kernel)) rfl (fun _ _ _ _ _ => rfl) (fun A outer s H E f c2 hr => (pcy (takes_of rfl rfl rfl rfl) g_read hr (pa_cons (pv 13) pa_nil)))) (pa_cons (pc g_due hr (pa_cons (pe_fz (pe_split (pv 13) pe_str)) pa_nil)) pa_nil)))))
          (pss_one (ps_ret pe_bl))
          pss_nil)
        (pss_one (ps_if (pt_not (pt_val (pc g_like hr (pa_cons (pcx g_read hr (pa_cons (pv 12) pa_nil)) (pa_cons (pv 11) pa_nil)))))
          (pss_one (ps_ret pe_bl))
          pss_nil))))))))))
      (pss_one (ps_ret pe_bl)))))))), ?_⟩
  refine rd_script rfl hS hP fun H0 fc hP0 => ?_
  refine ⟨rfl, c, ns, [(P_law, .tbl #[])], rfl, by omega, fc, Has.one hP0 ntbl, fun a H1 m1 d1 => ?_⟩
  refine ⟨_, rfl, rfl, a, _, rfl, d1, fun nk keep tk H2 hk hk8 _ m2 d2 htk => ⟨tk, _, 0, _, rfl, rfl, SqT.of htk, rfl, ?_⟩⟩
  refine ⟨(by show 0 ≤ sizeLine; decide), fun p hp => ?_⟩
  have d3 := d2.new (o := .lst []) hp nl
  refine ⟨_, rfl, _, rfl, rfl, a, nk, 30, _, rfl, hk, hk8, by decide, d3, fun cs0 v0 H4 hc0 hk0 m4 d4 r0 => ?_⟩
  obtain ⟨p0, xs0, rfl, f0, r0⟩ := r0.lst_inv
  have hx0 : xs0.length = cs0.length := by rw [r0.length, List.length_map]
  refine ⟨p0, rfl, ⟨_, f0.sq⟩, ?_⟩
  refine for_list (K := K) (a := p0) (xs := xs0) (fun i σ H5 => ∃ (cs : List Ch) (ys : List V) (v4 v5 v6 v7 : Option V), σ = [some (.ref c), some (.ref a), some (.int nk), some (.ref p), v4, v5, v6, v7, none, none, none, none, none, none, none] ∧ Mono H4 H5 ∧
      Dice K H5 a [(p, .lst ys), (P_law, .tbl #[])] ∧ RpL K H5 (cs.map Ch.enc) ys ∧ cs.length = i ∧ ∀ c ∈ cs, c.key < nk ∧ ChSm 899999999 999999 c)
    ⟨[], [], none, none, none, none, rfl, Mono.refl _, d4, .nil, rfl, fun _ h => (nomatch h)⟩ (fun i σ H5 _ ⟨_, _, _, _, _, _, _, m, _⟩ => (f0.mono m).sq) ?_ ?_
  · rintro i x σ H5 hi ⟨cs, ys, v4, v5, v6, v7, rfl, m5, d5, ry, hl, hcs⟩
    have hi' : i < cs0.length := by
      have := (List.getElem?_eq_some_iff.mp hi).1
      omega
    obtain ⟨ch, hch⟩ : ∃ ch, cs0[i]? = some ch := ⟨cs0[i], List.getElem?_eq_getElem hi'⟩
    obtain ⟨u, hu, ru⟩ := (r0.mono m5).get (i := i) (d := ch.enc) (by rw [List.getElem?_map, hch]; rfl)
    rw [hi] at hu
    cases hu
    obtain ⟨ac, rfl, hac⟩ := ru.ch_inv
    have hkey := hk0 ch (List.mem_of_getElem? hch)
    refine ⟨ac, _, rfl, SqT.of hac, rfl, _, _, rfl, _, _, rfl, _, _, rfl, rfl, ?_⟩
    -- far
    refine ⟨_, _, rfl, rfl, ⟨by decide, by decide, by decide⟩, _, _, rfl, rfl, ⟨by decide, by decide, by decide⟩, _, _, rfl, rfl, .inl ⟨by decide, by decide⟩, ⟨(by show 2 ≤ sizeLine; decide), fun q hq => ?_⟩⟩
    have d6 := d5.old (o := .lst [.int 1000000, .int 900000000]) hq
    obtain ⟨far, hfar, hfv⟩ : ∃ far : Int, atI ([.int 1000000, .int 900000000] : List V) (if decide (V.str (wd ch.set) = V.str "set") = true then 1 else 0) = some (.int far) ∧ far = (if ch.set = true then 900000000 else 1000000) := by
      cases ch.set with
      | true => exact ⟨900000000, by decide +kernel, rfl⟩
      | false => exact ⟨1000000, by decide +kernel, rfl⟩
    have hfp : 0 < far ∧ far ≤ 900000000 := by rw [hfv]; split <;> decide
    refine ⟨_, rfl, rfl, .inr ⟨_, rfl, q, _, _, _, rfl, rfl, SqL.of upd_same, hfar, ?_⟩⟩
    have m6 := m5.trans (Mono.new (o := .lst [.int 1000000, .int 900000000]) hq)
    have ry6 := ry.mono (Mono.new (o := .lst [.int 1000000, .int 900000000]) hq)
    -- append
    refine ⟨_, rfl, .inl ⟨rfl, _, SqL.of d6.has.head⟩, _, rfl, _, rfl, _, rfl, _, rfl, _, _, rfl, rfl, hfp.1, ?_⟩
    refine ⟨_, rfl, _, _, rfl, rfl, ⟨(by show 2 ≤ sizeLine; decide), fun q2 hq2 => ?_⟩⟩
    have d7 := d6.new (o := .lst [.int 0, .int (far - 1)]) hq2 nl
    refine ⟨_, rfl, rfl, a, 2, _, rfl, by decide, by decide, d7, fun r8 H8 p8 q8 m8 d8 => ?_⟩
    obtain ⟨z, hz, hzv⟩ : ∃ z : Int, atI ([.int 0, .int (far - 1)] : List V) r8 = some (.int z) ∧ (z = 0 ∨ z = far - 1) := by
      rcases (by omega : r8 = 0 ∨ r8 = 1) with rfl | rfl
      · exact ⟨0, rfl, .inl rfl⟩
      · exact ⟨far - 1, rfl, .inr rfl⟩
    refine ⟨q2, _, _, _, rfl, rfl, SqL.of d8.has.head, hz, _, _, rfl, rfl, ⟨(by show 3 ≤ sizeLine; decide), fun t ht => ?_⟩⟩
    have d9 := d8.tail
    have hy : ys.length ≤ 1000 := by rw [ry.length, List.length_map]; omega
    obtain ⟨s3, r3⟩ := snoc_tup (K := K) (ds := [.int ch.key, .str (wd ch.set), .int (ch.worth % far - z)]) d9.has ht (.cons .int (.cons .str (.cons .int .nil)))
    refine ⟨p, ys, _, rfl, rfl, by rw [upd_ne (ne_of_none d9.at_ ht)]; exact d9.at_, small1000 hy, ?_⟩
    have mm := ((Mono.new (o := .lst [.int 0, .int (far - 1)]) hq2).trans m8).trans s3.mono
    refine ⟨cs ++ [{ ch with worth := ch.worth % far - z }], ys ++ [.ref t], _, _, _, _, rfl, m6.trans mm, d9.tr0 s3, ?_, by rw [List.length_append, List.length_singleton, hl], fun c' hc' => ?_⟩
    · rw [List.map_append]
      exact (ry6.mono mm).snoc r3
    · rcases List.mem_append.mp hc' with h | h
      · exact hcs c' h
      · rw [List.mem_singleton.mp h]
        refine ⟨hkey, ?_⟩
        have e1 := Int.emod_nonneg ch.worth (show far ≠ 0 by omega)
        have e2 := Int.emod_lt_of_pos ch.worth hfp.1
        show (ch.worth % far - z).natAbs ≤ if ch.set = true then 899999999 else 999999
        split
        · rename_i hs
          rw [if_pos hs] at hfv
          omega
        · rename_i hs
          rw [if_neg hs] at hfv
          omega
  rintro σ H5 ⟨cs, ys, v4, v5, v6, v7, rfl, m5, d5, ry, hl, hcs⟩
  have hcl : cs.length ≤ 30 := by omega
  have hck : ∀ c ∈ cs, c.key < nk := fun c h => (hcs c h).1
  -- rows, letters = story(keys, changes_here)
  refine ⟨_, rfl, ?_⟩
  refine rd_fz ⟨_, rfl, _, _, rfl, d5.at_, fun o => ?_⟩
  refine ⟨rfl, nk, cs, _, rfl, hk8, by omega, hck, .lst FzL.frz (ry.mono d5.mfz), fun u H6 g6 r6 => ?_⟩
  have d6 := d5.fz (ob := o) |>.grow g6
  obtain ⟨as, us, rfl, has, rus⟩ := r6.tup_inv
  obtain ⟨vr, us, rfl, rvr, rus⟩ := rus.cons_inv
  obtain ⟨vl, us, rfl, rvl, rus⟩ := rus.cons_inv
  have := rus.nil_inv
  subst this
  refine ⟨as, _, rfl, SqT.of has, rfl, _, _, rfl, _, _, rfl, rfl, ?_⟩
  have smL : ∀ l, IsLet nk cs l → Small l := fun l il => small_let (S := 899999999) (A := 999999) (fun c h => (hcs c h).2) (fun c h => by
    have := (hcs c h).2
    unfold ChSm at this
    split at this <;> omega) (by omega) hck hk hk8 (by omega) il
  -- for turn in range(8)
  refine ⟨_, rfl, by decide, by decide, ?_⟩
  refine for_range (lo := 0) (n := 8) (fun i σ H => ∃ (ps : Array Value) (v10 v11 v12 v13 v14 : Option V), σ = [some (.ref c), some (.ref a), some (.int nk), some (.ref p), v4, v5, v6, v7, some vr, some vl, v10, v11, v12, v13, v14] ∧ Mono H6 H ∧
      Dice K H a [(P_law, .tbl ps)] ∧ TabI H lamQ ps)
    ⟨#[], none, none, none, none, none, rfl, Mono.refl _, d6, TabI.nil _ _⟩ ?_ ?_
  · rintro i σ H7 hi ⟨ps, v10, v11, v12, v13, v14, rfl, m7, d7, ti⟩
    -- letter_here = letter(d, keys, rows, letters)
    refine ⟨_, rfl, _, rfl, _, rfl, _, rfl, rfl, a, nk, cs, vr, vl, _, rfl, hk, hk8, by omega, d7, rvr.mono m7, rvl.mono m7, fun l v H8 il m8 d8 rv8 => ?_⟩
    have sm8 := smL l il
    -- now and then another worth
    refine rd_mid (fun σ' H' => ∃ (l : Letter) (v : V), σ' = [some (.ref c), some (.ref a), some (.int nk), some (.ref p), v4, v5, v6, v7, some vr, some vl, some (.int (0 + (i : Int))), some v, v12, v13, v14] ∧ Mono H8 H' ∧ Dice K H' a [(P_law, .tbl ps)] ∧ Rp K H' l.enc v ∧ Small l) ?_ ?_
    · have keep : ∃ (l : Letter) (v' : V), ([some (.ref c), some (.ref a), some (.int nk), some (.ref p), v4, v5, v6, v7, some vr, some vl, some (.int (0 + (i : Int))), some v, v12, v13, v14] : L2.St) = [some (.ref c), some (.ref a), some (.int nk), some (.ref p), v4, v5, v6, v7, some vr, some vl, some (.int (0 + (i : Int))), some v', v12, v13, v14] ∧ Mono H8 H8 ∧ Dice K H8 a [(P_law, .tbl ps)] ∧ Rp K H8 l.enc v' ∧ Small l :=
        ⟨l, v, rfl, Mono.refl _, d8, rv8, sm8⟩
      cases l with
      | change n ch ah =>
        obtain ⟨b, rfl, hb⟩ := id rv8.chg_inv
        refine ⟨_, rfl, b, _, 0, _, rfl, rfl, SqT.of hb, rfl, rfl, _, rfl, iteP (by decide +kernel) ?_⟩
        refine ⟨_, rfl, rfl, a, 4, _, rfl, by decide, by decide, d8, fun r9 H9 p9 q9 m9 d9 => ?_⟩
        refine ⟨rfl, _, rfl, ite2 (fun c1 => ?_) fun c1 => ?_⟩
        · have hb9 := m9 _ _ hb trivial
          refine ⟨_, rfl, _, rfl, b, _, rfl, SqT.of hb9, (by show ¬ (HT.sIx 6 0 none = 0 ∧ HT.sIx 6 6 (some 4) = 6); decide), fun e1 he1 => ?_⟩
          have d10 := d9.old (o := .tup (cutV [.str "change", .int (n : Int), .int ch.key, .str (wd ch.set), .int ch.worth, .int (ah : Int)] none (some 4))) he1
          refine ⟨_, _, rfl, rfl, ⟨by decide, by decide, by decide⟩, _, _, rfl, rfl, _, _, rfl, rfl, ⟨by decide, by decide, by decide⟩, _, _, rfl, rfl, ⟨(by show 3 ≤ sizeLine; decide), fun e2 he2 => ?_⟩⟩
          have d11 := d10.new (o := .lst [.int 999999999, .int (-999999999), .int 0]) he2 nl
          refine ⟨_, rfl, rfl, a, 3, _, rfl, by decide, by decide, d11, fun r12 H12 p12 q12 m12 d12 => ?_⟩
          obtain ⟨z, hz, hz1, hz2⟩ : ∃ z : Int, atI ([.int 999999999, .int (-999999999), .int 0] : List V) r12 = some (.int z) ∧ -1000000000 < z ∧ z < 1000000000 := by
            rcases (by omega : r12 = 0 ∨ r12 = 1 ∨ r12 = 2) with rfl | rfl | rfl
            · exact ⟨999999999, rfl, by decide, by decide⟩
            · exact ⟨-999999999, rfl, by decide, by decide⟩
            · exact ⟨0, rfl, by decide, by decide⟩
          refine ⟨e2, _, _, _, rfl, rfl, SqL.of d12.has.head, hz, ⟨(by show 1 ≤ sizeLine; decide), fun e3 he3 => ?_⟩⟩
          have d13 := d12.tail.old (o := .tup [.int z]) he3
          have he1' := (Mono.new (o := .tup [.int z]) he3) _ _ (m12 _ _ ((Mono.new he2) _ _ (upd_same (H := H9) (a := e1) (o := .tup (cutV [.str "change", .int (n : Int), .int ch.key, .str (wd ch.set), .int ch.worth, .int (ah : Int)] none (some 4)))) trivial) trivial) trivial
          refine ⟨e1, e3, _, _, rfl, rfl, SqT.of he1', SqT.of upd_same, (by intro z; cases z), (by show 4 + 1 ≤ sizeLine; decide), (fun z => nomatch z), fun _ e4 he4 => ?_⟩
          have d14 := d13.old (o := .tup (cutV [.str "change", .int (n : Int), .int ch.key, .str (wd ch.set), .int ch.worth, .int (ah : Int)] none (some 4) ++ [.int z])) he4
          have mm := ((((m9.trans (Mono.new he1)).trans (Mono.new he2)).trans m12).trans (Mono.new (o := .tup [.int z]) he3)).trans (Mono.new (o := .tup (cutV [.str "change", .int (n : Int), .int ch.key, .str (wd ch.set), .int ch.worth, .int (ah : Int)] none (some 4) ++ [.int z])) he4)
          refine ⟨_, rfl, _, rfl, b, _, rfl, SqT.of (mm _ _ hb trivial), (by show ¬ (HT.sIx 6 0 (some 5) = 0 ∧ HT.sIx 6 6 none = 6); decide), fun e5 he5 => ?_⟩
          have d15 := d14.old (o := .tup (cutV [.str "change", .int (n : Int), .int ch.key, .str (wd ch.set), .int ch.worth, .int (ah : Int)] (some 5) none)) he5
          refine ⟨e4, e5, _, _, rfl, rfl, SqT.of ((Mono.new he5) _ _ upd_same trivial), SqT.of upd_same, (by intro z; cases z), (by show 5 + 1 ≤ sizeLine; decide), (fun z => nomatch z), fun _ e6 he6 => ?_⟩
          refine ⟨.change n { ch with worth := z } ah, .ref e6, rfl, (mm.trans (Mono.new he5)).trans (Mono.new he6), d15.old he6, .tup upd_same (.cons .str (.cons .int (.cons .int (.cons .str (.cons .int (.cons .int .nil)))))), ?_⟩
          obtain ⟨h1, h2, _, _, h5⟩ := sm8
          exact ⟨h1, h2, hz1, hz2, h5⟩
        · exact ⟨_, _, rfl, m9, d9, rv8.mono m9, sm8⟩
      | part n b rows =>
        obtain ⟨q, t, xs, rfl, hq, _⟩ := id rv8.part_inv
        exact ⟨_, rfl, q, _, 0, _, rfl, rfl, SqT.of hq, rfl, rfl, _, rfl, iteM (by decide +kernel) (iteM (by decide) keep)⟩
      | beat n ls =>
        obtain ⟨q, t, rfl, hq, _⟩ := id rv8.beat_inv
        exact ⟨_, rfl, q, _, 0, _, rfl, rfl, SqT.of hq, rfl, rfl, _, rfl, iteM (by decide +kernel) (iteM (by decide) keep)⟩
    clear sm8 rv8 d8 il
    rintro _ H9 ⟨l, v, rfl, m9, d9, rv, sm⟩
    have gw := words_gw sm
    have wl := wordsL_len sm
    have ti9 := (ti.mono m8).mono m9
    have lay := (Gd.letter3 l)
    have rdl : ∀ {H0 : Hp} {Q0 : VK}, (∀ v H', Grow H0 H' → Rp K H' l.enc v → Q0 v H') → spRead K Gs.cBadText [.str (textL l)] H0 Q0 E0 := fun hq => by
      refine rd_read10 (by omega) (by omega) gw (fun n hb => ?_) (fun _ => ?_)
      · rw [words_good sm] at hb
        cases hb
      · rw [words_letter sm]
        exact hq
    -- text = " ".join(words(letter))
    refine ⟨⟨" ", rfl⟩, _, rfl, rfl, v, l, rfl, rv, sm, fun q H10 t10 => ⟨" ", q, wordsL l, rfl, rfl, .inl (SqL.of t10.own.head), join_sz (fun w hw => (gw w hw).1.1) (by omega), ?_⟩⟩
    have d10 : Dice K H10 a [(P_law, .tbl ps)] := d9.grow t10.tail
    have rv10 := rv.mono t10.mono
    -- like(written(letter), text), like(read(text), letter)
    refine ⟨_, rfl, rfl, v, l, rfl, rv10, sm, fun H11 g11 => ?_⟩
    have stx : PyData.strOk (textL l) = true := strOk_tl fun c hc => by
      have := joined_signs gw c hc
      omega
    refine ⟨_, rfl, rfl, .str (textL l), _, _, rfl, .str _, .str _, (Gd.str (n := 0) stx).1, (by show PyData.depth (.str (textL l)) < 4; simp [PyData.depth]), (by simp [wid]), ⟨_, rfl, iteM (by decide) ?_⟩⟩
    have d11 := d10.grow g11
    refine ⟨_, rfl, rdl fun v2 H12 g12 rv2 => ⟨_, rfl, rfl, l.enc, _, _, rfl, rv2.dp, (rv10.mono (g11.mono.trans g12.mono)).dp, lay.1, Nat.lt_succ_of_le lay.2, small_wid sm, ⟨_, rfl, iteM (by decide) ?_⟩⟩⟩
    have d12 := d11.grow g12
    -- bad = text
    refine ⟨_, rfl, ?_⟩
    refine ⟨_, rfl, rfl, a, 2, _, rfl, by decide, by decide, d12, fun r13 H13 p13 q13 m13 d13 => ⟨_, _, rfl, rfl, _, rfl, by omega, by omega, ?_⟩⟩
    have m12 := ((t10.mono.trans g11.mono).trans g12.mono).trans m13
    refine for_range (lo := 0) (n := (1 + r13).toNat) (fun j σ H => ∃ (ws : List Str) (v14 : Option V), σ = [some (.ref c), some (.ref a), some (.int nk), some (.ref p), v4, v5, v6, v7, some vr, some vl, some (.int (0 + (i : Int))), some v, some (.str (textL l)), some (.str (Txt.join " " ws)), v14] ∧ Mono H9 H ∧
        Dice K H a [(P_law, .tbl ps)] ∧ GoodW ws ∧ 3 ≤ ws.length + j ∧ ws.length ≤ 20 + j)
      ⟨wordsL l, _, rfl, m12, d13, gw, by omega, by omega⟩ ?_ ?_
    · rintro j σ H14 hj ⟨ws, v14, rfl, m14, d14, gws, hl1, hl2⟩
      refine ⟨_, rfl, _, rfl, rfl, a, ws, _, rfl, gws, by omega, by omega, d14, fun ws' H15 gws' e1 e2 m15 d15 => ?_⟩
      exact ⟨ws', _, rfl, m14.trans m15, d15, gws', by omega, by omega⟩
    rintro σ H14 ⟨ws, v14, rfl, m14, d14, gws, hl1, hl2⟩
    have hj2 : (1 + r13).toNat ≤ 2 := by omega
    have hws : 0 < ws.length := by omega
    have hw9 : ws.length ≤ 100 := by omega
    obtain ⟨gd, wd'⟩ := dueD_gd gws (by omega)
    have ti14 := ti9.mono m14
    have hPt : H14 P_law = some (.tbl ps) := d14.at_
    -- like(told(lambda: read(bad)), due(bad.split(" ")))
    refine ⟨tabs_of hPt ti14, fun H15 eN T15 => ?_⟩
    obtain ⟨ps', d15, ti15⟩ := d14.lam (q := lamQ) (fun _ h => nomatch h) eN T15
    have m15 := ExtN.mono eN
    refine ⟨_, rfl, told_read10 hws hw9 gws xo_BadText fun v3 H16 g16 rv3 => ?_⟩
    have d16 := d15.grow g16
    have hts : (Txt.join " " ws).length + 2 ≤ sizeLine := by
      have := joined_len fun w hw => (gws w hw).1.1
      exact Nat.le_trans (show (Txt.join " " ws).length + 2 ≤ 2000 by omega) (by decide)
    refine rd_fz ⟨_, rfl, ⟨_, rfl⟩, _, " ", rfl, rfl, (by decide +kernel), hts, fun q17 hq17 => ⟨q17, _, rfl, upd_same, fun o17 => ?_⟩⟩
    have esp : Txt.split (Txt.join " " ws) " " = ws := split_words (fun z => by rw [z] at hws; simp at hws) fun w hw => (gws w hw).2
    rw [esp]
    have g17 := (Grow.refl H16).nfz (xs := ws.map V.str) (ob := o17) hq17
    have f17 : FzL K (upd (upd H16 q17 (.lst (ws.map V.str))) q17 (.frz o17 (.lst (ws.map V.str)))) q17 (ws.map V.str) := FzL.frz
    generalize (upd (upd H16 q17 (.lst (ws.map V.str))) q17 (.frz o17 (.lst (ws.map V.str)))) = H17 at g17 f17
    refine ⟨rfl, q17, ws, rfl, f17, hws, by omega, fun w hw => WdOk.of (gws w hw).1, fun v18 H18 g18 rv18 => ?_⟩
    have g16' := g17.trans g18
    refine ⟨rfl, dueD ws, _, _, rfl, (rv3.mono g16'.mono).dp, rv18.dp, gd.1, Nat.lt_succ_of_le gd.2, wd', ⟨_, rfl, iteM (by decide) ?_⟩⟩
    have d18 := d16.grow g16'
    have m18 := ((m14.trans m15).trans g16.mono).trans g16'.mono
    -- like(read(text), letter)
    refine ⟨_, rfl, rdl fun v19 H19 g19 rv19 => ⟨_, rfl, rfl, l.enc, _, _, rfl, rv19.dp, (rv.mono (m18.trans g19.mono)).dp, lay.1, Nat.lt_succ_of_le lay.2, small_wid sm, ⟨_, rfl, iteM (by decide) ?_⟩⟩⟩
    exact ⟨ps', _, _, _, _, _, rfl, (((m7.trans m8).trans m9).trans m18).trans g19.mono, d18.grow g19, (ti15.mono (g16.mono.trans g16'.mono)).mono g19.mono⟩
  · rintro σ H7 ⟨ps, v10, v11, v12, v13, v14, rfl, m7, d7, ti⟩
    exact go _
end
end Cu

namespace Cu
open PySem PySem.Spec PyProof.Rows L2
theorem facts {l : PySem.W.OpenLaw} {w : World} {K : PySem.W.Frag} {h : Heap} {mg : Str → Option Value} {fa C_CatchError C_BadKnown C_BadText C_BadBoard C_NoKey C_BadChange C_BadPart C_BadPrices f1 f2 f3 f4 f5 f6 f7 f8 f9 f10 f11 f12 f13 f14 f15 f16 f17 f18 f19 f20 f21 f22 f23 c_law P_law : Addr} (X : K.In h) (G : h.Ns mainGlobals mg) (hfa : mg "law" = some (.ref fa))
    {od1 an1 od2 an2 od3 an3 od4 an4 od5 an5 od6 an6 od7 an7 od8 an8 od9 an9 od10 an10 od11 an11 od12 an12 od13 an13 od14 an14 od15 an15 od16 an16 od17 an17 od18 an18 od19 an19 od20 an20 od21 an21 od22 an22 od23 an23 ld_law : Option Addr} {sl1 sl2 sl3 sl4 sl5 sl6 sl7 sl8 sl9 sl10 sl11 sl12 sl13 sl14 sl15 sl16 sl17 sl18 sl19 sl20 sl21 sl22 sl23 lsl_law : Array (Option Value)} {oc1 kV1 dc1 pm1 cd1 ct1 oc2 kV2 dc2 pm2 cd2 ct2 oc3 kV3 dc3 pm3 cd3 ct3 oc4 kV4 dc4 pm4 cd4 ct4 oc5 kV5 dc5 pm5 cd5 ct5 oc6 kV6 dc6 pm6 cd6 ct6 oc7 kV7 dc7 pm7 cd7 ct7 oc8 kV8 dc8 pm8 cd8 ct8 oc9 kV9 dc9 pm9 cd9 ct9 oc10 kV10 dc10 pm10 cd10 ct10 oc11 kV11 dc11 pm11 cd11 ct11 oc12 kV12 dc12 pm12 cd12 ct12 oc13 kV13 dc13 pm13 cd13 ct13 oc14 kV14 dc14 pm14 cd14 ct14 oc15 kV15 dc15 pm15 cd15 ct15 oc16 kV16 dc16 pm16 cd16 ct16 oc17 kV17 dc17 pm17 cd17 ct17 oc18 kV18 dc18 pm18 cd18 ct18 oc19 kV19 dc19 pm19 cd19 ct19 oc20 kV20 dc20 pm20 cd20 ct20 oc21 kV21 dc21 pm21 cd21 ct21 oc22 kV22 dc22 pm22 cd22 ct22 oc23 kV23 dc23 pm23 cd23 ct23 le_law : Value} {tk_MOST_FIGURES tk_FIGURES : Tok} {nm_BadKnown qn_BadKnown : Str} {N_BadKnown : Addr} {bs_BadKnown : List Value} {sn_BadKnown : List Str} {sb_BadKnown : List Value} {ab_BadKnown : Bool} {col_BadKnown : Option Bool} {dd_BadKnown : Option Addr} {m0_BadKnown m1_BadKnown m2_BadKnown m3_BadKnown m5_BadKnown : Option Value} {nm_BadText qn_BadText : Str} {N_BadText : Addr} {bs_BadText : List Value} {sn_BadText : List Str} {sb_BadText : List Value} {ab_BadText : Bool} {col_BadText : Option Bool} {dd_BadText : Option Addr} {m0_BadText m1_BadText m2_BadText m3_BadText m5_BadText : Option Value} {lvs_law : Array Value}
    (b_len : PySem.W.nsIn K mainGlobals "len" = some none)
    (b_range : PySem.W.nsIn K mainGlobals "range" = some none)
    (b_int : PySem.W.nsIn K mainGlobals "int" = some none)
    (b_list : PySem.W.nsIn K mainGlobals "list" = some none)
    (b_tuple : PySem.W.nsIn K mainGlobals "tuple" = some none)
    (b_sorted : PySem.W.nsIn K mainGlobals "sorted" = some none)
    (b_min : PySem.W.nsIn K mainGlobals "min" = some none)
    (b_max : PySem.W.nsIn K mainGlobals "max" = some none)
    (b_sum : PySem.W.nsIn K mainGlobals "sum" = some none)
    (b_set : PySem.W.nsIn K mainGlobals "set" = some none)
    (b_str : PySem.W.nsIn K mainGlobals "str" = some none)
    (b_isinstance : PySem.W.nsIn K mainGlobals "isinstance" = some none)
    (b_enumerate : PySem.W.nsIn K mainGlobals "enumerate" = some none)
    (b_zip : PySem.W.nsIn K mainGlobals "zip" = some none)
    (b_bool : PySem.W.nsIn K mainGlobals "bool" = some none)
    (b_dict : PySem.W.nsIn K mainGlobals "dict" = some none)
    (c_MOST_FIGURES : PySem.W.nsIn K mainGlobals "MOST_FIGURES" = some (some (.int 9 tk_MOST_FIGURES)))
    (c_FIGURES : PySem.W.nsIn K mainGlobals "FIGURES" = some (some (.str "0123456789" tk_FIGURES)))
    (ac_CatchError : PySem.W.nsIn K mainGlobals "CatchError" = some (some (.ref C_CatchError)))
    (rd_CatchError : PySem.W.readsIn K C_CatchError (.type "type") = true)
    (ge_CatchError : PySem.W.specialIn K (.ref C_CatchError) "__getattribute__" = some (some (.builtin "type.__getattribute__")))
    (ci_CatchError : PySem.W.findCls K (.ref C_CatchError) (.type "type") "__init__" = some (.val (.builtin "ValueError.__init__")))
    (ac_BadKnown : PySem.W.nsIn K mainGlobals "BadKnown" = some (some (.ref C_BadKnown)))
    (xl_BadKnown : K.lookup C_BadKnown = some (excClassObj nm_BadKnown qn_BadKnown C_BadKnown N_BadKnown bs_BadKnown [.ref C_CatchError, .type "ValueError", .type "Exception", .type "BaseException", .type "object"] true sn_BadKnown sb_BadKnown ab_BadKnown col_BadKnown dd_BadKnown m0_BadKnown m1_BadKnown m2_BadKnown m3_BadKnown m5_BadKnown "ValueError.__new__"))
    (sa_BadKnown : PySem.W.findIn K (.ref C_BadKnown) "__setattr__" = some (some (.builtin "object.__setattr__")))
    (eC_BadKnown : PySem.W.subIn K (.ref C_BadKnown) (.type "BaseException") = some true)
    (tC_BadKnown : PySem.W.typeIn K (.ref C_BadKnown) = some (.type "type"))
    (kC_BadKnown : PySem.W.keepIn K (.ref C_BadKnown) = true)
    (ga_BadKnown : PySem.W.findIn K (.ref C_BadKnown) "__getattribute__" = some (some (.builtin "BaseException.__getattribute__")))
    (gg_BadKnown : PySem.W.findIn K (.ref C_BadKnown) "__getattr__" = some none)
    (hC_BadKnown : PySem.W.hasDictIn K C_BadKnown = true)
    (nf_BadKnown : PySem.W.findIn K (.ref C_BadKnown) "key" = some none)
    (ac_BadText : PySem.W.nsIn K mainGlobals "BadText" = some (some (.ref C_BadText)))
    (xl_BadText : K.lookup C_BadText = some (excClassObj nm_BadText qn_BadText C_BadText N_BadText bs_BadText [.ref C_CatchError, .type "ValueError", .type "Exception", .type "BaseException", .type "object"] true sn_BadText sb_BadText ab_BadText col_BadText dd_BadText m0_BadText m1_BadText m2_BadText m3_BadText m5_BadText "ValueError.__new__"))
    (sa_BadText : PySem.W.findIn K (.ref C_BadText) "__setattr__" = some (some (.builtin "object.__setattr__")))
    (eC_BadText : PySem.W.subIn K (.ref C_BadText) (.type "BaseException") = some true)
    (tC_BadText : PySem.W.typeIn K (.ref C_BadText) = some (.type "type"))
    (kC_BadText : PySem.W.keepIn K (.ref C_BadText) = true)
    (ga_BadText : PySem.W.findIn K (.ref C_BadText) "__getattribute__" = some (some (.builtin "BaseException.__getattribute__")))
    (gg_BadText : PySem.W.findIn K (.ref C_BadText) "__getattr__" = some none)
    (hC_BadText : PySem.W.hasDictIn K C_BadText = true)
    (nf_BadText : PySem.W.findIn K (.ref C_BadText) "place" = some none)
    (b_ValueError : PySem.W.nsIn K mainGlobals "ValueError" = some none)
    (ac_BadBoard : PySem.W.nsIn K mainGlobals "BadBoard" = some (some (.ref C_BadBoard)))
    (ac_NoKey : PySem.W.nsIn K mainGlobals "NoKey" = some (some (.ref C_NoKey)))
    (ac_BadChange : PySem.W.nsIn K mainGlobals "BadChange" = some (some (.ref C_BadChange)))
    (ac_BadPart : PySem.W.nsIn K mainGlobals "BadPart" = some (some (.ref C_BadPart)))
    (ac_BadPrices : PySem.W.nsIn K mainGlobals "BadPrices" = some (some (.ref C_BadPrices)))
    (cl_BadText : PySem.W.findIn K (.ref C_BadText) "__class__" = some (some (.builtin "object.__class__")))
    (cg_ : PySem.W.specialIn K (.builtin "object.__class__") "__get__" = some (some (.builtin "getset_descriptor.__get__")))
    (ct_ : PySem.W.takesIn K (.builtin "object.__class__") = some true)
    (mo_BadText : PySem.W.mroIn K C_BadText (.type "object") = some true)
    (em_BadText : PySem.W.exmOne K (.ref C_BadText) (.ref C_CatchError) = some true)
    (ki0_BadText : PySem.W.kitOne K (.ref C_BadText) (.ref C_BadBoard) = some false)
    (ki1_BadText : PySem.W.kitOne K (.ref C_BadText) (.ref C_NoKey) = some false)
    (ki2_BadText : PySem.W.kitOne K (.ref C_BadText) (.ref C_BadChange) = some false)
    (ki3_BadText : PySem.W.kitOne K (.ref C_BadText) (.ref C_BadPart) = some false)
    (ki4_BadText : PySem.W.kitOne K (.ref C_BadText) (.ref C_BadKnown) = some false)
    (ki5_BadText : PySem.W.kitOne K (.ref C_BadText) (.ref C_BadPrices) = some false)
    (ki6_BadText : PySem.W.kitOne K (.ref C_BadText) (.ref C_BadText) = some true)
    (kv_BadText : PySem.W.kitOne K (.ref C_BadText) (.type "ValueError") = some true)
    (a1 : PySem.W.nsIn K mainGlobals "_law_told" = some (some (.ref f1)))
    (l1 : K.lookup f1 = some ⟨oc1, od1, .func (PySem.W.fnOf "_law_told" "_law_told" (defArgs s_told) (defBody s_told) (defScope s_told) .none kV1 dc1 pm1 an1 cd1 ct1), sl1⟩)
    (d1 : PySem.W.codeIn K cd1 "_law_told" = true)
    (k1 : PySem.W.keepIn K (.ref f1) = true)
    (a2 : PySem.W.nsIn K mainGlobals "_law_dice" = some (some (.ref f2)))
    (l2 : K.lookup f2 = some ⟨oc2, od2, .func (PySem.W.fnOf "_law_dice" "_law_dice" (defArgs s_dice) (defBody s_dice) (defScope s_dice) .none kV2 dc2 pm2 an2 cd2 ct2), sl2⟩)
    (d2 : PySem.W.codeIn K cd2 "_law_dice" = true)
    (k2 : PySem.W.keepIn K (.ref f2) = true)
    (a3 : PySem.W.nsIn K mainGlobals "_law_next" = some (some (.ref f3)))
    (l3 : K.lookup f3 = some ⟨oc3, od3, .func (PySem.W.fnOf "_law_next" "_law_next" (defArgs s_next) (defBody s_next) (defScope s_next) .none kV3 dc3 pm3 an3 cd3 ct3), sl3⟩)
    (d3 : PySem.W.codeIn K cd3 "_law_next" = true)
    (k3 : PySem.W.keepIn K (.ref f3) = true)
    (a4 : PySem.W.nsIn K mainGlobals "_law_counts" = some (some (.ref f4)))
    (l4 : K.lookup f4 = some ⟨oc4, od4, .func (PySem.W.fnOf "_law_counts" "_law_counts" (defArgs s_counts) (defBody s_counts) (defScope s_counts) .none kV4 dc4 pm4 an4 cd4 ct4), sl4⟩)
    (d4 : PySem.W.codeIn K cd4 "_law_counts" = true)
    (k4 : PySem.W.keepIn K (.ref f4) = true)
    (a5 : PySem.W.nsIn K mainGlobals "_law_worth" = some (some (.ref f5)))
    (l5 : K.lookup f5 = some ⟨oc5, od5, .func (PySem.W.fnOf "_law_worth" "_law_worth" (defArgs s_worth) (defBody s_worth) (defScope s_worth) .none kV5 dc5 pm5 an5 cd5 ct5), sl5⟩)
    (d5 : PySem.W.codeIn K cd5 "_law_worth" = true)
    (k5 : PySem.W.keepIn K (.ref f5) = true)
    (a6 : PySem.W.nsIn K mainGlobals "_law_changes" = some (some (.ref f6)))
    (l6 : K.lookup f6 = some ⟨oc6, od6, .func (PySem.W.fnOf "_law_changes" "_law_changes" (defArgs s_changes) (defBody s_changes) (defScope s_changes) .none kV6 dc6 pm6 an6 cd6 ct6), sl6⟩)
    (d6 : PySem.W.codeIn K cd6 "_law_changes" = true)
    (k6 : PySem.W.keepIn K (.ref f6) = true)
    (a7 : PySem.W.nsIn K mainGlobals "_law_story" = some (some (.ref f7)))
    (l7 : K.lookup f7 = some ⟨oc7, od7, .func (PySem.W.fnOf "_law_story" "_law_story" (defArgs s_story) (defBody s_story) (defScope s_story) .none kV7 dc7 pm7 an7 cd7 ct7), sl7⟩)
    (d7 : PySem.W.codeIn K cd7 "_law_story" = true)
    (k7 : PySem.W.keepIn K (.ref f7) = true)
    (a8 : PySem.W.nsIn K mainGlobals "_law_part" = some (some (.ref f8)))
    (l8 : K.lookup f8 = some ⟨oc8, od8, .func (PySem.W.fnOf "_law_part" "_law_part" (defArgs s_part) (defBody s_part) (defScope s_part) .none kV8 dc8 pm8 an8 cd8 ct8), sl8⟩)
    (d8 : PySem.W.codeIn K cd8 "_law_part" = true)
    (k8 : PySem.W.keepIn K (.ref f8) = true)
    (a9 : PySem.W.nsIn K mainGlobals "_law_beat" = some (some (.ref f9)))
    (l9 : K.lookup f9 = some ⟨oc9, od9, .func (PySem.W.fnOf "_law_beat" "_law_beat" (defArgs s_beat) (defBody s_beat) (defScope s_beat) .none kV9 dc9 pm9 an9 cd9 ct9), sl9⟩)
    (d9 : PySem.W.codeIn K cd9 "_law_beat" = true)
    (k9 : PySem.W.keepIn K (.ref f9) = true)
    (a10 : PySem.W.nsIn K mainGlobals "_law_letter" = some (some (.ref f10)))
    (l10 : K.lookup f10 = some ⟨oc10, od10, .func (PySem.W.fnOf "_law_letter" "_law_letter" (defArgs s_letter) (defBody s_letter) (defScope s_letter) .none kV10 dc10 pm10 an10 cd10 ct10), sl10⟩)
    (d10 : PySem.W.codeIn K cd10 "_law_letter" = true)
    (k10 : PySem.W.keepIn K (.ref f10) = true)
    (a11 : PySem.W.nsIn K mainGlobals "_law_words" = some (some (.ref f11)))
    (l11 : K.lookup f11 = some ⟨oc11, od11, .func (PySem.W.fnOf "_law_words" "_law_words" (defArgs s_words) (defBody s_words) (defScope s_words) .none kV11 dc11 pm11 an11 cd11 ct11), sl11⟩)
    (d11 : PySem.W.codeIn K cd11 "_law_words" = true)
    (k11 : PySem.W.keepIn K (.ref f11) = true)
    (a12 : PySem.W.nsIn K mainGlobals "numbers_of" = some (some (.ref f12)))
    (l12 : K.lookup f12 = some ⟨oc12, od12, .func (PySem.W.fnOf "numbers_of" "numbers_of" (defArgs s_numbers_of) (defBody s_numbers_of) (defScope s_numbers_of) .none kV12 dc12 pm12 an12 cd12 ct12), sl12⟩)
    (d12 : PySem.W.codeIn K cd12 "numbers_of" = true)
    (k12 : PySem.W.keepIn K (.ref f12) = true)
    (a13 : PySem.W.nsIn K mainGlobals "written" = some (some (.ref f13)))
    (l13 : K.lookup f13 = some ⟨oc13, od13, .func (PySem.W.fnOf "written" "written" (defArgs s_written) (defBody s_written) (defScope s_written) .none kV13 dc13 pm13 an13 cd13 ct13), sl13⟩)
    (d13 : PySem.W.codeIn K cd13 "written" = true)
    (k13 : PySem.W.keepIn K (.ref f13) = true)
    (a14 : PySem.W.nsIn K mainGlobals "_law_like" = some (some (.ref f14)))
    (l14 : K.lookup f14 = some ⟨oc14, od14, .func (PySem.W.fnOf "_law_like" "_law_like" (defArgs s_like) (defBody s_like) (defScope s_like) .none kV14 dc14 pm14 an14 cd14 ct14), sl14⟩)
    (d14 : PySem.W.codeIn K cd14 "_law_like" = true)
    (k14 : PySem.W.keepIn K (.ref f14) = true)
    (a15 : PySem.W.nsIn K mainGlobals "number_of" = some (some (.ref f15)))
    (l15 : K.lookup f15 = some ⟨oc15, od15, .func (PySem.W.fnOf "number_of" "number_of" (defArgs s_number_of) (defBody s_number_of) (defScope s_number_of) .none kV15 dc15 pm15 an15 cd15 ct15), sl15⟩)
    (d15 : PySem.W.codeIn K cd15 "number_of" = true)
    (k15 : PySem.W.keepIn K (.ref f15) = true)
    (a16 : PySem.W.nsIn K mainGlobals "is_right" = some (some (.ref f16)))
    (l16 : K.lookup f16 = some ⟨oc16, od16, .func (PySem.W.fnOf "is_right" "is_right" (defArgs s_is_right) (defBody s_is_right) (defScope s_is_right) .none kV16 dc16 pm16 an16 cd16 ct16), sl16⟩)
    (d16 : PySem.W.codeIn K cd16 "is_right" = true)
    (k16 : PySem.W.keepIn K (.ref f16) = true)
    (a17 : PySem.W.nsIn K mainGlobals "is_done" = some (some (.ref f17)))
    (l17 : K.lookup f17 = some ⟨oc17, od17, .func (PySem.W.fnOf "is_done" "is_done" (defArgs s_is_done) (defBody s_is_done) (defScope s_is_done) .none kV17 dc17 pm17 an17 cd17 ct17), sl17⟩)
    (d17 : PySem.W.codeIn K cd17 "is_done" = true)
    (k17 : PySem.W.keepIn K (.ref f17) = true)
    (a18 : PySem.W.findIn K (.ref C_BadText) "__init__" = some (some (.ref f18)))
    (i18 : PySem.W.typeIn K (.ref f18) = some (.type "function"))
    (l18 : K.lookup f18 = some ⟨oc18, od18, .func (PySem.W.fnOf "__init__" "BadText.__init__" (defArgs s_BadText_init) (defBody s_BadText_init) (defScope s_BadText_init) .none kV18 dc18 pm18 an18 cd18 ct18), sl18⟩)
    (d18 : PySem.W.codeIn K cd18 "BadText.__init__" = true)
    (k18 : PySem.W.keepIn K (.ref f18) = true)
    (a19 : PySem.W.nsIn K mainGlobals "read" = some (some (.ref f19)))
    (l19 : K.lookup f19 = some ⟨oc19, od19, .func (PySem.W.fnOf "read" "read" (defArgs s_read) (defBody s_read) (defScope s_read) .none kV19 dc19 pm19 an19 cd19 ct19), sl19⟩)
    (d19 : PySem.W.codeIn K cd19 "read" = true)
    (k19 : PySem.W.keepIn K (.ref f19) = true)
    (a20 : PySem.W.nsIn K mainGlobals "_law_changed" = some (some (.ref f20)))
    (l20 : K.lookup f20 = some ⟨oc20, od20, .func (PySem.W.fnOf "_law_changed" "_law_changed" (defArgs s_changed) (defBody s_changed) (defScope s_changed) .none kV20 dc20 pm20 an20 cd20 ct20), sl20⟩)
    (d20 : PySem.W.codeIn K cd20 "_law_changed" = true)
    (k20 : PySem.W.keepIn K (.ref f20) = true)
    (a21 : PySem.W.nsIn K mainGlobals "_law_number" = some (some (.ref f21)))
    (l21 : K.lookup f21 = some ⟨oc21, od21, .func (PySem.W.fnOf "_law_number" "_law_number" (defArgs s_number) (defBody s_number) (defScope s_number) .none kV21 dc21 pm21 an21 cd21 ct21), sl21⟩)
    (d21 : PySem.W.codeIn K cd21 "_law_number" = true)
    (k21 : PySem.W.keepIn K (.ref f21) = true)
    (a22 : PySem.W.nsIn K mainGlobals "_law_due" = some (some (.ref f22)))
    (l22 : K.lookup f22 = some ⟨oc22, od22, .func (PySem.W.fnOf "_law_due" "_law_due" (defArgs s_due) (defBody s_due) (defScope s_due) .none kV22 dc22 pm22 an22 cd22 ct22), sl22⟩)
    (d22 : PySem.W.codeIn K cd22 "_law_due" = true)
    (k22 : PySem.W.keepIn K (.ref f22) = true)
    (a23 : PySem.W.nsIn K mainGlobals "law" = some (some (.ref f23)))
    (l23 : K.lookup f23 = some ⟨oc23, od23, .func (PySem.W.fnOf "law" "law" (defArgs s_law) (defBody s_law) (defScope s_law) .none kV23 dc23 pm23 an23 cd23 ct23), sl23⟩)
    (d23 : PySem.W.codeIn K cd23 "law" = true)
    (k23 : PySem.W.keepIn K (.ref f23) = true)
    (lc_law : cd23 = .ref c_law)
    (ll_law : K.lookup c_law = some ⟨le_law, ld_law, .fields lvs_law, lsl_law⟩)
    (lp_law : lvs_law[11]? = some (.ref P_law))
    (ln_law : K.lookup P_law = none)
    (lh_law : PySem.W.codeHdIn K c_law P_law = true)
    (own : LamX.OwnTab K fa h) : LamX.LawAtS l w K CX0 6 63 "_law_script" mg fa h := by
  have e := hfa.symm.trans (PySem.W.mg_of X G a23)
  cases e
  subst lc_law
  have hP := own c_law P_law _ _ le_law ld_law lvs_law lsl_law l23 rfl rfl ll_law lp_law
  have Bm : Blt mg := ⟨PySem.W.mg_none_of X G b_len, PySem.W.mg_none_of X G b_range, PySem.W.mg_none_of X G b_int, PySem.W.mg_none_of X G b_list, PySem.W.mg_none_of X G b_tuple, PySem.W.mg_none_of X G b_sorted, PySem.W.mg_none_of X G b_min, PySem.W.mg_none_of X G b_max, PySem.W.mg_none_of X G b_sum, PySem.W.mg_none_of X G b_set, PySem.W.mg_none_of X G b_str, PySem.W.mg_none_of X G b_isinstance, PySem.W.mg_none_of X G b_enumerate, PySem.W.mg_none_of X G b_zip, PySem.W.mg_none_of X G b_bool, PySem.W.mg_none_of X G b_dict⟩
  have km_MOST_FIGURES := PySem.W.mg_of X G c_MOST_FIGURES
  have km_FIGURES := PySem.W.mg_of X G c_FIGURES
  have CCatchError : CeR K mg C_CatchError := ⟨PySem.W.mg_of X G ac_CatchError, rd_CatchError, ge_CatchError, ci_CatchError⟩
  have XBadKnown : Xc K C_BadKnown "key" := ⟨⟨⟨nm_BadKnown, qn_BadKnown, N_BadKnown, bs_BadKnown, _, sn_BadKnown, sb_BadKnown, ab_BadKnown, col_BadKnown, dd_BadKnown, m0_BadKnown, m1_BadKnown, m2_BadKnown, m3_BadKnown, m5_BadKnown, xl_BadKnown, rfl⟩, sa_BadKnown, eC_BadKnown, tC_BadKnown, kC_BadKnown⟩, ⟨ga_BadKnown, gg_BadKnown, eC_BadKnown, hC_BadKnown⟩, nf_BadKnown⟩
  have XBadText : Xc K C_BadText "place" := ⟨⟨⟨nm_BadText, qn_BadText, N_BadText, bs_BadText, _, sn_BadText, sb_BadText, ab_BadText, col_BadText, dd_BadText, m0_BadText, m1_BadText, m2_BadText, m3_BadText, m5_BadText, xl_BadText, rfl⟩, sa_BadText, eC_BadText, tC_BadText, kC_BadText⟩, ⟨ga_BadText, gg_BadText, eC_BadText, hC_BadText⟩, nf_BadText⟩
  have nValueError := PySem.W.mg_none_of X G b_ValueError
  let Gs : Kx mg := ⟨C_CatchError, C_BadBoard, C_NoKey, C_BadChange, C_BadPart, C_BadKnown, C_BadPrices, C_BadText, PySem.W.mg_of X G ac_CatchError, PySem.W.mg_of X G ac_BadBoard, PySem.W.mg_of X G ac_NoKey, PySem.W.mg_of X G ac_BadChange, PySem.W.mg_of X G ac_BadPart, PySem.W.mg_of X G ac_BadKnown, PySem.W.mg_of X G ac_BadPrices, PySem.W.mg_of X G ac_BadText⟩
  have xo_BadText : XOf K Gs C_BadText 6 := ⟨⟨ga_BadText, gg_BadText, eC_BadText, hC_BadText, cl_BadText, cg_, ct_, mo_BadText⟩, em_BadText, ki0_BadText, ki1_BadText, ki2_BadText, ki3_BadText, ki4_BadText, ki5_BadText, ki6_BadText, kv_BadText, (fun z => absurd z (by decide)), (fun _ => rfl)⟩
  have F_told : Fd K mg "_law_told" s_told := ⟨_, _, fun_mk (st := s_told) l1 d1 k1, PySem.W.mg_of X G a1⟩
  have F2 : Fd K mg "_law_dice" s_dice := ⟨_, _, fun_mk (st := s_dice) l2 d2 k2, PySem.W.mg_of X G a2⟩
  have F3 : Fd K mg "_law_next" s_next := ⟨_, _, fun_mk (st := s_next) l3 d3 k3, PySem.W.mg_of X G a3⟩
  have F4 : Fd K mg "_law_counts" s_counts := ⟨_, _, fun_mk (st := s_counts) l4 d4 k4, PySem.W.mg_of X G a4⟩
  have F5 : Fd K mg "_law_worth" s_worth := ⟨_, _, fun_mk (st := s_worth) l5 d5 k5, PySem.W.mg_of X G a5⟩
  have F6 : Fd K mg "_law_changes" s_changes := ⟨_, _, fun_mk (st := s_changes) l6 d6 k6, PySem.W.mg_of X G a6⟩
  have F7 : Fd K mg "_law_story" s_story := ⟨_, _, fun_mk (st := s_story) l7 d7 k7, PySem.W.mg_of X G a7⟩
  have F8 : Fd K mg "_law_part" s_part := ⟨_, _, fun_mk (st := s_part) l8 d8 k8, PySem.W.mg_of X G a8⟩
  have F9 : Fd K mg "_law_beat" s_beat := ⟨_, _, fun_mk (st := s_beat) l9 d9 k9, PySem.W.mg_of X G a9⟩
  have F10 : Fd K mg "_law_letter" s_letter := ⟨_, _, fun_mk (st := s_letter) l10 d10 k10, PySem.W.mg_of X G a10⟩
  have F11 : Fd K mg "_law_words" s_words := ⟨_, _, fun_mk (st := s_words) l11 d11 k11, PySem.W.mg_of X G a11⟩
  have F12 : Fd K mg "numbers_of" s_numbers_of := ⟨_, _, fun_mk (st := s_numbers_of) l12 d12 k12, PySem.W.mg_of X G a12⟩
  have F13 : Fd K mg "written" s_written := ⟨_, _, fun_mk (st := s_written) l13 d13 k13, PySem.W.mg_of X G a13⟩
  have F14 : Fd K mg "_law_like" s_like := ⟨_, _, fun_mk (st := s_like) l14 d14 k14, PySem.W.mg_of X G a14⟩
  have F15 : Fd K mg "number_of" s_number_of := ⟨_, _, fun_mk (st := s_number_of) l15 d15 k15, PySem.W.mg_of X G a15⟩
  have F16 : Fd K mg "is_right" s_is_right := ⟨_, _, fun_mk (st := s_is_right) l16 d16 k16, PySem.W.mg_of X G a16⟩
  have F17 : Fd K mg "is_done" s_is_done := ⟨_, _, fun_mk (st := s_is_done) l17 d17 k17, PySem.W.mg_of X G a17⟩
  have F18 : Xd K mg "BadText" C_BadText "BadText.__init__" s_BadText_init := ⟨⟨_, _, fun_mk (st := s_BadText_init) l18 d18 k18, a18, i18⟩, PySem.W.mg_of X G ac_BadText⟩
  have F19 : Fd K mg "read" s_read := ⟨_, _, fun_mk (st := s_read) l19 d19 k19, PySem.W.mg_of X G a19⟩
  have F20 : Fd K mg "_law_changed" s_changed := ⟨_, _, fun_mk (st := s_changed) l20 d20 k20, PySem.W.mg_of X G a20⟩
  have F21 : Fd K mg "_law_number" s_number := ⟨_, _, fun_mk (st := s_number) l21 d21 k21, PySem.W.mg_of X G a21⟩
  have F22 : Fd K mg "_law_due" s_due := ⟨_, _, fun_mk (st := s_due) l22 d22 k22, PySem.W.mg_of X G a22⟩
  have F23 := fun_mk (st := s_law) l23 d23 k23
  refine ⟨PySem.W.fnOf "law" "law" (defArgs s_law) (defBody s_law) (defScope s_law) .none kV23 dc23 pm23 an23 (.ref c_law) ct23, [(c_law, P_law)], spLawT K P_law, (fun p hp => by rw [List.mem_singleton.mp hp]; exact hP), (fun p hp => by rw [List.mem_singleton.mp hp]; exact ln_law), (fun p hp => by rw [List.mem_singleton.mp hp]; exact PySem.W.codeHd_of_K X lh_law), (fun s v => .of_eq rfl), (fun H a ns hl _ hT hS => ⟨rfl, a, ns, rfl, hl, hS, hT _ (List.mem_singleton.mpr rfl), fun _ => rfl⟩), fun base _ _ hTB => ?_⟩
  have TBl := hTB (c_law, P_law) (List.mem_singleton.mpr rfl)
  have hcode : (PySem.W.fnOf "law" "law" (defArgs s_law) (defBody s_law) (defScope s_law) .none kV23 dc23 pm23 an23 (.ref c_law) ct23).code = .ref c_law := rfl
  have g_dice := ok_dice (P := l.prog) (w := w) (base := base) F2 Bm
  have g_next := ok_next (P := l.prog) (w := w) (base := base) F3 Bm
  have g_counts := ok_counts (P := l.prog) (w := w) (base := base) F4 Bm g_next
  have g_worth := ok_worth (P := l.prog) (w := w) (base := base) F5 Bm g_next
  have g_changes := ok_changes (P := l.prog) (w := w) (base := base) F6 Bm g_next g_worth
  have g_story := ok_story (P := l.prog) (w := w) (base := base) F7 Bm
  have g_part := ok_part (P := l.prog) (w := w) (base := base) F8 Bm
  have g_beat := ok_beat (P := l.prog) (w := w) (base := base) F9 Bm
  have g_letter := ok_letter1 (P := l.prog) (w := w) (base := base) F10 Bm g_next g_part g_beat
  have g_words := ok_words (P := l.prog) (w := w) (base := base) F11 Bm
  have g_numbers_of := ok_numbers_of (P := l.prog) (w := w) (base := base) F12 Bm
  have g_written := ok_written (P := l.prog) (w := w) (base := base) F13 Bm g_numbers_of
  have g_like := ok_like (P := l.prog) (w := w) (base := base) F14 Bm
  have g_number_of := ok_number_of (P := l.prog) (w := w) (base := base) F15 Bm km_MOST_FIGURES km_FIGURES
  have g_is_right := ok_is_right (P := l.prog) (w := w) (base := base) F16 Bm g_number_of
  have g_is_done := ok_is_done (P := l.prog) (w := w) (base := base) F17 Bm
  have x_BadText := ok_BadText (P := l.prog) (w := w) (base := base) F18 CCatchError XBadText
  have g_read := ok_read (P := l.prog) (w := w) (base := base) F19 Bm g_is_right g_is_done x_BadText XBadText
  have g_changed := ok_chgT (P := l.prog) (w := w) (base := base) F20 Bm g_next
  have g_number := ok_number (P := l.prog) (w := w) (base := base) F21 Bm
  have g_due := ok_due (P := l.prog) (w := w) (base := base) F22 Bm g_number
  exact ok_law (P := l.prog) (w := w) (base := base) F23 Bm hcode TBl F_told nValueError Gs XBadKnown XBadText xo_BadText g_dice g_next g_counts g_changes g_story g_letter g_words g_written g_like g_read g_changed g_due
end Cu
open PySem PySem.W PyProof.Rows
set_option maxHeartbeats 0 in
theorem PySem.Challenge.cw_catchup_k10_written_and_read_holds : PySem.Challenge.rw_catchup_k10_written_and_read.Holds := by
  w_on; o_law; k_head; (case hw => w_witness2)
  k_fill
  refine LamX.walk_ofOwn (l := PySem.Challenge.rw_catchup_k10_written_and_read) (n := 63) (k := 6) (x := "_law_script") (CX := fun _ => L2.CX0) rfl (by decide) rfl ⟨rfl, by decide, by decide⟩ (by decide +kernel) (fun w h Y => PySem.W.km_in_of Y) ?F (fun _ _ _ _ _ z => z)
  case F =>
    intro w mg fa h Y KX G hmg own
    refine' Cu.facts KX G hmg ?b_len ?b_range ?b_int ?b_list ?b_tuple ?b_sorted ?b_min ?b_max ?b_sum ?b_set ?b_str ?b_isinstance ?b_enumerate ?b_zip ?b_bool ?b_dict ?c_MOST_FIGURES ?c_FIGURES ?ac_CatchError ?rd_CatchError ?ge_CatchError ?ci_CatchError ?ac_BadKnown ?xl_BadKnown ?sa_BadKnown ?eC_BadKnown ?tC_BadKnown ?kC_BadKnown ?ga_BadKnown ?gg_BadKnown ?hC_BadKnown ?nf_BadKnown ?ac_BadText ?xl_BadText ?sa_BadText ?eC_BadText ?tC_BadText ?kC_BadText ?ga_BadText ?gg_BadText ?hC_BadText ?nf_BadText ?b_ValueError ?ac_BadBoard ?ac_NoKey ?ac_BadChange ?ac_BadPart ?ac_BadPrices ?cl_BadText ?cg_ ?ct_ ?mo_BadText ?em_BadText ?ki0_BadText ?ki1_BadText ?ki2_BadText ?ki3_BadText ?ki4_BadText ?ki5_BadText ?ki6_BadText ?kv_BadText ?a1 ?l1 ?d1 ?k1 ?a2 ?l2 ?d2 ?k2 ?a3 ?l3 ?d3 ?k3 ?a4 ?l4 ?d4 ?k4 ?a5 ?l5 ?d5 ?k5 ?a6 ?l6 ?d6 ?k6 ?a7 ?l7 ?d7 ?k7 ?a8 ?l8 ?d8 ?k8 ?a9 ?l9 ?d9 ?k9 ?a10 ?l10 ?d10 ?k10 ?a11 ?l11 ?d11 ?k11 ?a12 ?l12 ?d12 ?k12 ?a13 ?l13 ?d13 ?k13 ?a14 ?l14 ?d14 ?k14 ?a15 ?l15 ?d15 ?k15 ?a16 ?l16 ?d16 ?k16 ?a17 ?l17 ?d17 ?k17 ?a18 ?i18 ?l18 ?d18 ?k18 ?a19 ?l19 ?d19 ?k19 ?a20 ?l20 ?d20 ?k20 ?a21 ?l21 ?d21 ?k21 ?a22 ?l22 ?d22 ?k22 ?a23 ?l23 ?d23 ?k23 ?lc_law ?ll_law ?lp_law ?ln_law ?lh_law own
    (case b_len => k_is)
    (case b_range => k_is)
    (case b_int => k_is)
    (case b_list => k_is)
    (case b_tuple => k_is)
    (case b_sorted => k_is)
    (case b_min => k_is)
    (case b_max => k_is)
    (case b_sum => k_is)
    (case b_set => k_is)
    (case b_str => k_is)
    (case b_isinstance => k_is)
    (case b_enumerate => k_is)
    (case b_zip => k_is)
    (case b_bool => k_is)
    (case b_dict => k_is)
    (case c_MOST_FIGURES => k_is)
    (case c_FIGURES => k_is)
    (case ac_CatchError => k_is)
    (case rd_CatchError => k_is)
    (case ge_CatchError => k_is)
    (case ci_CatchError => k_is)
    (case ac_BadKnown => k_is)
    (case xl_BadKnown => k_is)
    (case sa_BadKnown => k_is)
    (case eC_BadKnown => k_is)
    (case tC_BadKnown => k_is)
    (case kC_BadKnown => k_is)
    (case ga_BadKnown => k_is)
    (case gg_BadKnown => k_is)
    (case hC_BadKnown => k_is)
    (case nf_BadKnown => k_is)
    (case ac_BadText => k_is)
    (case xl_BadText => k_is)
    (case sa_BadText => k_is)
    (case eC_BadText => k_is)
    (case tC_BadText => k_is)
    (case kC_BadText => k_is)
    (case ga_BadText => k_is)
    (case gg_BadText => k_is)
    (case hC_BadText => k_is)
    (case nf_BadText => k_is)
    (case b_ValueError => k_is)
    (case ac_BadBoard => k_is)
    (case ac_NoKey => k_is)
    (case ac_BadChange => k_is)
    (case ac_BadPart => k_is)
    (case ac_BadPrices => k_is)
    (case cl_BadText => k_is)
    (case cg_ => k_is)
    (case ct_ => k_is)
    (case mo_BadText => k_is)
    (case em_BadText => (first | k_is | kernel_rfl))
    (case ki0_BadText => (first | k_is | kernel_rfl))
    (case ki1_BadText => (first | k_is | kernel_rfl))
    (case ki2_BadText => (first | k_is | kernel_rfl))
    (case ki3_BadText => (first | k_is | kernel_rfl))
    (case ki4_BadText => (first | k_is | kernel_rfl))
    (case ki5_BadText => (first | k_is | kernel_rfl))
    (case ki6_BadText => (first | k_is | kernel_rfl))
    (case kv_BadText => (first | k_is | kernel_rfl))
    (case a1 => k_is)
    (case l1 => k_is)
    (case d1 => k_is)
    (case k1 => k_is)
    (case a2 => k_is)
    (case l2 => k_is)
    (case d2 => k_is)
    (case k2 => k_is)
    (case a3 => k_is)
    (case l3 => k_is)
    (case d3 => k_is)
    (case k3 => k_is)
    (case a4 => k_is)
    (case l4 => k_is)
    (case d4 => k_is)
    (case k4 => k_is)
    (case a5 => k_is)
    (case l5 => k_is)
    (case d5 => k_is)
    (case k5 => k_is)
    (case a6 => k_is)
    (case l6 => k_is)
    (case d6 => k_is)
    (case k6 => k_is)
    (case a7 => k_is)
    (case l7 => k_is)
    (case d7 => k_is)
    (case k7 => k_is)
    (case a8 => k_is)
    (case l8 => k_is)
    (case d8 => k_is)
    (case k8 => k_is)
    (case a9 => k_is)
    (case l9 => k_is)
    (case d9 => k_is)
    (case k9 => k_is)
    (case a10 => k_is)
    (case l10 => k_is)
    (case d10 => k_is)
    (case k10 => k_is)
    (case a11 => k_is)
    (case l11 => k_is)
    (case d11 => k_is)
    (case k11 => k_is)
    (case a12 => k_is)
    (case l12 => k_is)
    (case d12 => k_is)
    (case k12 => k_is)
    (case a13 => k_is)
    (case l13 => k_is)
    (case d13 => k_is)
    (case k13 => k_is)
    (case a14 => k_is)
    (case l14 => k_is)
    (case d14 => k_is)
    (case k14 => k_is)
    (case a15 => k_is)
    (case l15 => k_is)
    (case d15 => k_is)
    (case k15 => k_is)
    (case a16 => k_is)
    (case l16 => k_is)
    (case d16 => k_is)
    (case k16 => k_is)
    (case a17 => k_is)
    (case l17 => k_is)
    (case d17 => k_is)
    (case k17 => k_is)
    (case a18 => k_is)
    (case i18 => k_is)
    (case l18 => k_is)
    (case d18 => k_is)
    (case k18 => k_is)
    (case a19 => k_is)
    (case l19 => k_is)
    (case d19 => k_is)
    (case k19 => k_is)
    (case a20 => k_is)
    (case l20 => k_is)
    (case d20 => k_is)
    (case k20 => k_is)
    (case a21 => k_is)
    (case l21 => k_is)
    (case d21 => k_is)
    (case k21 => k_is)
    (case a22 => k_is)
    (case l22 => k_is)
    (case d22 => k_is)
    (case k22 => k_is)
    (case a23 => k_is)
    (case l23 => k_is)
    (case d23 => k_is)
    (case k23 => k_is)
    (case lc_law => rfl)
    (case ll_law => k_is)
    (case lp_law => rfl)
    (case ln_law => kernel_rfl)
    (case lh_law => kernel_rfl)
#print axioms PySem.Challenge.cw_catchup_k10_written_and_read_holds
