import PyProof.Rows.All
import Wide.All
import OpenK.AllK
import Wide.FinOn
import HandS.ForMost
import HandS.Evl
import HandS.Codes
import HandS.Defaults
import HandS.IsInst
import HandS.Wide
import HandS.WideBits
import HandS.Strs
import HandS.Walk
import HandS.TupAny
import HandS.TupSets
import HandS.NoneIn
import HandS.Ends
import PyProof.ReprRoads
import PySem.Challenge.RW_hushranks_k09_ticks_left_and_quiet
set_option Elab.async false
set_option linter.all false
set_option maxRecDepth 100000
set_option maxHeartbeats 4000000
/-! base: what the readings of this program's defs want besides the layer -/
namespace HR
open PySem L2

/-! ### built-ins by name -/
theorem bt_isinstance : bootBuiltins "isinstance" = some (.builtin "isinstance") := by decide +kernel
theorem bt_len : bootBuiltins "len" = some (.builtin "len") := by decide +kernel
theorem bt_all : bootBuiltins "all" = some (.builtin "all") := by decide +kernel
theorem bt_sum : bootBuiltins "sum" = some (.builtin "sum") := by decide +kernel
theorem bt_abs : bootBuiltins "abs" = some (.builtin "abs") := by decide +kernel
theorem bt_min : bootBuiltins "min" = some (.builtin "min") := by decide +kernel
theorem bt_max : bootBuiltins "max" = some (.builtin "max") := by decide +kernel
theorem bt_divmod : bootBuiltins "divmod" = some (.builtin "divmod") := by decide +kernel
theorem bt_repr : bootBuiltins "repr" = some (.builtin "repr") := by decide +kernel
theorem bt_sorted : bootBuiltins "sorted" = some (.builtin "sorted") := by decide +kernel
theorem bt_int : bootBuiltins "int" = some (.type "int") := by decide +kernel
theorem bt_bool : bootBuiltins "bool" = some (.type "bool") := by decide +kernel
theorem bt_str : bootBuiltins "str" = some (.type "str") := by decide +kernel
theorem bt_list : bootBuiltins "list" = some (.type "list") := by decide +kernel
theorem bt_tuple : bootBuiltins "tuple" = some (.type "tuple") := by decide +kernel
theorem bt_dict : bootBuiltins "dict" = some (.type "dict") := by decide +kernel
theorem bt_set : bootBuiltins "set" = some (.type "set") := by decide +kernel
theorem hu64 {A : Around} {k : Nat} (hr : Room k A) : A.units + 64 < cLine := by have := hr.un; omega

/-! ### lists or tuples -/
/-- at a a list or a tuple of xs is to be read -/
def Sq (K : PySem.W.Frag) (H : Hp) (a : Addr) (xs : List V) : Prop := SqL K H a xs ∨ SqT K H a xs
theorem Sq.l {K : PySem.W.Frag} {H : Hp} {a : Addr} {xs : List V} (h : H a = some (.lst xs)) : Sq K H a xs := .inl (.inl (.inl h))
theorem Sq.t {K : PySem.W.Frag} {H : Hp} {a : Addr} {xs : List V} (h : H a = some (.tup xs)) : Sq K H a xs := .inr (.inl (.inl h))
abbrev Ex := @Evl.Ex
theorem Sq.ex {K : PySem.W.Frag} {H H' : Hp} {a : Addr} {xs : List V} (e : Ex H H') (h : Sq K H a xs) : Sq K H' a xs := by
  rcases h with h | h
  · exact .inl (Evl.ex_l e h)
  · exact .inr (Evl.ex_t e h)
section
variable {X : Cx}
/-- xs[i] of a list or a tuple -/
def rIxA (K : PySem.W.Frag) : R2 := fun x y H Q => ∃ p xs i v, x = .ref p ∧ y = .int i ∧ Sq K H p xs ∧ atI xs i = some v ∧ Q v H
theorem ix_any : IxR X (rIxA X.K) := by
  intro c d pins s σ H x y u v Q I rx ry h hs
  obtain ⟨p, xs, i, z, e1, e2, h1 | h1, h2, q⟩ := h
  · exact (ix_list (X := X)) c d pins s σ H x y u v Q I rx ry ⟨p, xs, i, z, e1, e2, h1, h2, q⟩ hs
  · exact (ix_tup (X := X)) c d pins s σ H x y u v Q I rx ry ⟨p, xs, i, z, e1, e2, h1, h2, q⟩ hs
/-- len of a list or a tuple -/
def rLenA (K : PySem.W.Frag) : List V → Hp → VK → Prop := fun xs H Q => ∃ p ys, xs = [.ref p] ∧ Sq K H p ys ∧ Q (.int ys.length) H
theorem call_lenA : CallR X (.builtin "len") (rLenA X.K) := by
  intro pins s σ H xs us Q I r h
  obtain ⟨p, ys, e, h1, q⟩ := h
  exact call_len_seq pins s σ H xs us Q I r ⟨p, ys, e, h1, q⟩
/-- tuple(xs), list(xs) of a list or a tuple: what is given back is one of xs -/
def rTupA (K : PySem.W.Frag) : List V → Hp → VK → Prop := fun xs H Q => ∃ p ys S, xs = [.ref p] ∧ Ex S H ∧ Sq K S p ys ∧ (∀ l, H l = none → Q (.ref l) (upd H l (.tup ys))) ∧ (SqT K S p ys → Q (.ref p) H)
theorem call_tupleA : CallR X (.type "tuple") (rTupA X.K) := by
  intro pins s σ H xs us Q I r h
  obtain ⟨p, ys, S, e, eS, h1 | h1, q1, q2⟩ := h
  · exact call_tuple_of pins s σ H xs us Q I r ⟨p, ys, e, .inl ⟨Evl.ex_l eS h1, q1⟩⟩
  · exact call_tuple_of pins s σ H xs us Q I r ⟨p, ys, e, .inr ⟨Evl.ex_t eS h1, q2 h1⟩⟩
def rListA (K : PySem.W.Frag) : List V → Hp → VK → Prop := fun xs H Q => ∃ p ys, xs = [.ref p] ∧ Sq K H p ys ∧ ∀ l, H l = none → Q (.ref l) (upd H l (.lst ys))
theorem call_listA : CallR X (.type "list") (rListA X.K) := by
  intro pins s σ H xs us Q I r h
  obtain ⟨p, ys, e, h1, q⟩ := h
  exact call_list_of pins s σ H xs us Q I r ⟨p, ys, e, h1, q⟩
/-- what a for walks: a list or a tuple -/
def iAny (K : PySem.W.Frag) (tl : TE) : TI := fun σ H R => tl σ H fun x H1 => ∃ a, x = .ref a ∧ (((∃ xs, SqL K H1 a xs) ∧ R (Itl K a) H1) ∨ ((∃ xs, SqT K H1 a xs) ∧ R (Itt K a) H1))
theorem pi_any {tg l : Expr} {tl : TE} (hl : PE X l tl) : PI X tg l (iAny X.K tl) := by
  constructor
  intro pins s σ H R I h
  apply thn (hl.run pins s σ H _ I h)
  intro v s1 hv
  obtain ⟨x, H1, I1, r1, a, e, q⟩ := hv
  subst e
  cases r1
  have new : ∀ b ∈ [s1.heap.objs.size], FpOk X pins H1 b := by
    intro b hb
    cases List.mem_singleton.mp hb
    exact I1.fpOk (Nat.le_refl _) (I1.hok.fresh (Nat.le_refl _))
  obtain ⟨⟨xs, hq⟩, q⟩ | ⟨⟨xs, hq⟩, q⟩ := q
  · obtain ⟨its, _, p, _⟩ := I1.list hq
    apply PySem.wpAny_pyIter_list p.isList
    exact ⟨_, _, _, Itl X.K a, H1, rfl, I1.kept (t' := s1.toks) (fun _ _ e => Heap.get?_push_of_some _ e), turn_list a _, ⟨_, Heap.get?_push_size _ rfl, rfl, rfl⟩, new, q⟩
  · obtain ⟨its, _, p, _⟩ := I1.tuple hq
    apply PySem.wpAny_pyIter_tuple (show s1.heap.IsTuple a its.toArray from p)
    exact ⟨_, _, _, Itt X.K a, H1, rfl, I1.kept (t' := s1.toks) (fun _ _ e => Heap.get?_push_of_some _ e), turn_tuple a _, ⟨_, Heap.get?_push_size _ rfl, rfl, rfl⟩, new, q⟩
end
end HR
/-! comprehensions and loops over what is read alone -/
namespace HR
open PySem L2
theorem Ex.refl (H : Hp) : Ex H H := Evl.Ex.refl H
theorem Ex.trans {H H1 H2 : Hp} (a : Ex H H1) (b : Ex H1 H2) : Ex H H2 := Evl.Ex.trans a b
theorem Ex.new {H : Hp} {p : Addr} {o : HO} (h : H p = none) : Ex H (upd H p o) := Evl.Ex.new h
theorem Ex.mut {H H' : Hp} {p : Addr} {o : HO} (e : Ex H H') (h : H p = none) : Ex H (upd H' p o) := Evl.Ex.mut e h
theorem Ex.free {H H' : Hp} {p : Addr} (e : Ex H H') (h : H' p = none) : H p = none := Evl.fresh_back e h
theorem Ex.ne {H : Hp} {a b : Addr} {o : HO} (h : H a = some o) (h' : H b = none) : a ≠ b := ne_of_none h h'

theorem Paired.get {α β : Type} {F : α → β → Prop} : ∀ {l₁ : List α} {l₂ : List β} (i : Nat) {a : α}, PySem.Paired F l₁ l₂ → l₁[i]? = some a → ∃ b, l₂[i]? = some b ∧ F a b
  | _, _, _, _, .nil, h => by simp at h
  | _, _, 0, _, .cons r _, h => by
    simp only [List.getElem?_cons_zero, Option.some.injEq] at h
    subst h
    exact ⟨_, rfl, r⟩
  | _, _, i + 1, _, .cons _ t, h => by
    simp only [List.getElem?_cons_succ] at h ⊢
    exact Paired.get i t h
theorem Paired.get2 {α β : Type} {F : α → β → Prop} : ∀ {l₁ : List α} {l₂ : List β} (i : Nat) {b : β}, PySem.Paired F l₁ l₂ → l₂[i]? = some b → ∃ a, l₁[i]? = some a ∧ F a b
  | _, _, _, _, .nil, h => by simp at h
  | _, _, 0, _, .cons r _, h => by
    simp only [List.getElem?_cons_zero, Option.some.injEq] at h
    subst h
    exact ⟨_, rfl, r⟩
  | _, _, i + 1, _, .cons _ t, h => by
    simp only [List.getElem?_cons_succ] at h ⊢
    exact Paired.get2 i t h
theorem Paired.len {α β : Type} {F : α → β → Prop} {l₁ : List α} {l₂ : List β} (h : PySem.Paired F l₁ l₂) : l₁.length = l₂.length := PySem.Paired.length h
theorem Paired.imp {α β : Type} {F G : α → β → Prop} {l₁ : List α} {l₂ : List β} (h : PySem.Paired F l₁ l₂) (f : ∀ a b, F a b → G a b) : PySem.Paired G l₁ l₂ := L2.Paired.mapP h f
theorem Paired.eq_map {α β : Type} {g : β → α} : ∀ {l₁ : List α} {l₂ : List β}, PySem.Paired (fun a b => a = g b) l₁ l₂ → l₁ = l₂.map g
  | _, _, .nil => rfl
  | _, _, .cons r t => by rw [r, Paired.eq_map t]; rfl
theorem Paired.of_map {α β : Type} {F : α → β → Prop} (g : β → α) (h : ∀ b, F (g b) b) : ∀ l : List β, PySem.Paired F (l.map g) l
  | [] => .nil
  | b :: r => .cons (h b) (Paired.of_map g h r)
theorem Paired.of_map' {α β : Type} {F : α → β → Prop} (g : β → α) : ∀ l : List β, (∀ b ∈ l, F (g b) b) → PySem.Paired F (l.map g) l
  | [], _ => .nil
  | b :: r, h => .cons (h b List.mem_cons_self) (Paired.of_map' g r fun c hc => h c (List.mem_cons_of_mem _ hc))

theorem take_snoc {α : Type} {l : List α} {i : Nat} {a : α} (h : l[i]? = some a) : l.take (i + 1) = l.take i ++ [a] := by
  rw [List.take_add_one, h]
  rfl

/-! ### what stands still: S, a part of H; behind a step from H to H2: S and all that is new -/
def ext (S H H2 : Hp) : Hp := fun a => if H a = none then H2 a else S a
theorem ext_new {S H H2 : Hp} {a : Addr} (h : H a = none) : ext S H H2 a = H2 a := if_pos h
theorem ext_old {S H H2 : Hp} {a : Addr} {o : HO} (h : H a = some o) : ext S H H2 a = S a := if_neg (by rw [h]; exact fun q => nomatch q)
theorem ext_up {S H H2 : Hp} (h : Ex S H) : Ex S (ext S H H2) := fun a o e => by rw [ext_old (h a o e)]; exact e
theorem ext_lo {S H H2 : Hp} (h : Ex S H) (h2 : Ex H H2) : Ex (ext S H H2) H2 := fun a o e => by
  by_cases q : H a = none
  · rw [ext_new q] at e; exact e
  · rw [show ext S H H2 a = S a from if_neg q] at e
    exact h2 a o (h a o e)
theorem ext_self {H H2 : Hp} (h : Ex H H2) : ext H H H2 = H2 := by
  funext a
  by_cases q : H a = none
  · exact ext_new q
  · cases e : H a with
    | none => exact absurd e q
    | some o => rw [ext_old e, e, h a o e]
/-- the state of a body: S stood at the start in H; now Sc stands in Hc; the cells at L are the body's own and may change -/
structure Stn (S H : Hp) (L : List Addr) (Sc Hc : Hp) : Prop where
  sub : Ex S Sc
  cur : Ex Sc Hc
  keep : Ex H Hc
  new : ∀ a o, Sc a = some o → S a = some o ∨ H a = none
  loc : ∀ l ∈ L, Sc l = none ∧ H l = none
theorem Stn.start {S H : Hp} (h : Ex S H) : Stn S H [] S H := ⟨Ex.refl S, h, Ex.refl H, fun _ _ e => .inl e, fun _ h => nomatch h⟩
theorem Stn.fin {S H : Hp} {L : List Addr} {Sc Hc : Hp} (t : Stn S H L Sc Hc) (h : Ex S H) : Ex Sc (ext S H Hc) := fun a o e => by
  rcases t.new a o e with q | q
  · rw [ext_old (h a o q)]; exact q
  · rw [ext_new q]; exact t.cur a o e
/-- a step that changes nothing that stands -/
theorem Stn.step {S H : Hp} {L : List Addr} {Sc Hc H2 : Hp} (t : Stn S H L Sc Hc) (hl : ∀ l ∈ L, Hc l ≠ none) (e : Ex Hc H2) : Stn S H L (ext Sc Hc H2) H2 where
  sub := t.sub.trans (ext_up t.cur)
  cur := ext_lo t.cur e
  keep := t.keep.trans e
  new := fun a o q => by
    by_cases z : Hc a = none
    · exact .inr (t.keep.free z)
    · rw [show ext Sc Hc H2 a = Sc a from if_neg z] at q
      exact t.new a o q
  loc := fun l h => ⟨by rw [show ext Sc Hc H2 l = Sc l from if_neg (hl l h)]; exact (t.loc l h).1, (t.loc l h).2⟩
/-- a cell of one's own is written -/
theorem Stn.put {S H : Hp} {L : List Addr} {Sc Hc : Hp} {l : Addr} {o : HO} (t : Stn S H L Sc Hc) (h : l ∈ L) : Stn S H L Sc (upd Hc l o) where
  sub := t.sub
  cur := fun a u e => by
    rw [upd_ne (fun q => by rw [q, (t.loc l h).1] at e; cases e)]
    exact t.cur a u e
  keep := fun a u e => by
    rw [upd_ne (fun q => by rw [q, (t.loc l h).2] at e; cases e)]
    exact t.keep a u e
  new := t.new
  loc := t.loc
/-- a new cell of one's own -/
theorem Stn.cell {S H : Hp} {L : List Addr} {Sc Hc : Hp} {l : Addr} {o : HO} (t : Stn S H L Sc Hc) (h : Hc l = none) : Stn S H (l :: L) Sc (upd Hc l o) where
  sub := t.sub
  cur := t.cur.mut (t.cur.free h)
  keep := t.keep.mut (t.keep.free h)
  new := t.new
  loc := fun k hk => by
    rcases List.mem_cons.mp hk with e | hk
    · subst e; exact ⟨t.cur.free h, t.keep.free h⟩
    · exact t.loc k hk
/-- a new thing that will not change any more -/
theorem Stn.lay {S H : Hp} {L : List Addr} {Sc Hc : Hp} {l : Addr} {o : HO} (t : Stn S H L Sc Hc) (h : Hc l = none) (hl : ∀ k ∈ L, Hc k ≠ none) : Stn S H L (upd Sc l o) (upd Hc l o) where
  sub := t.sub.trans (Ex.new (t.cur.free h))
  cur := fun a u e => by
    by_cases z : a = l
    · subst z; rw [upd_same] at e ⊢; exact e
    · rw [upd_ne z] at e ⊢; exact t.cur a u e
  keep := t.keep.mut (t.keep.free h)
  new := fun a u e => by
    by_cases z : a = l
    · subst z; exact .inr (t.keep.free h)
    · rw [upd_ne z] at e; exact t.new a u e
  loc := fun k hk => by
    have z : k ≠ l := fun q => hl k hk (by rw [q]; exact h)
    exact ⟨by rw [upd_ne z]; exact (t.loc k hk).1, (t.loc k hk).2⟩
/-- a cell of one's own will not change any more -/
theorem Stn.freeze {S H : Hp} {L : List Addr} {Sc Hc : Hp} {l : Addr} {o : HO} (t : Stn S H (l :: L) Sc Hc) (h : Hc l = some o) (hl : l ∉ L) : Stn S H L (upd Sc l o) Hc where
  sub := t.sub.trans (Ex.new (t.loc l List.mem_cons_self).1)
  cur := fun a u e => by
    by_cases z : a = l
    · subst z; rw [upd_same] at e; rw [h]; exact e
    · rw [upd_ne z] at e; exact t.cur a u e
  keep := t.keep
  new := fun a u e => by
    by_cases z : a = l
    · subst z; exact .inr (t.loc a List.mem_cons_self).2
    · rw [upd_ne z] at e; exact t.new a u e
  loc := fun k hk => by
    have z : k ≠ l := fun q => hl (by rw [← q]; exact hk)
    exact ⟨by rw [upd_ne z]; exact (t.loc k (List.mem_cons_of_mem _ hk)).1, (t.loc k (List.mem_cons_of_mem _ hk)).2⟩

/-- what is to be shown of a comprehension's list, J its walk -/
def LcGoal (J : It) (g : TG) (tt : TT) (te : TE) (vs : List Nat) (σ : St) (H1 : Hp) (Q : VK) : Prop := ∀ D, H1 D = none → ∃ W : Nat → Nat → Hp → Prop, (∃ m, W 0 m (upd H1 D (.lst []))) ∧ ∀ i m H, W i m H →
  (J.stop i H ∧ Q (.ref D) H) ∨ (J.go i H ∧ ∃ Nx : Hp → Prop, (∀ H', Nx H' → ∃ m', m' < m ∧ W (i + 1) m' H') ∧ ∀ x H', J.yld i H x H' → g x (wipe σ vs) H' fun σ2 H2 => wipe σ2 vs = wipe σ vs ∧ tt σ2 H2 fun b H3 =>
    if b = true then te σ2 H3 fun y H4 => ∃ acc, H4 D = some (.lst acc) ∧ acc.length < sizeLine ∧ Nx (upd H4 D (.lst (acc ++ [y]))) else Nx H3)
/-- what pi_any wants of the thing that is walked -/
def LcAny (K : PySem.W.Frag) (a : Addr) (g : TG) (tt : TT) (te : TE) (vs : List Nat) (σ : St) (H1 : Hp) (Q : VK) : Prop :=
  ∃ a', V.ref a = V.ref a' ∧ (((∃ xs, SqL K H1 a' xs) ∧ LcGoal (Itl K a') g tt te vs σ H1 Q) ∨ ((∃ xs, SqT K H1 a' xs) ∧ LcGoal (Itt K a') g tt te vs σ H1 Q))
/-- a comprehension over a list or a tuple that stands, its elements plain values -/
theorem lcV0 {α : Type} {K : PySem.W.Frag} {te : TE} {g : TG} {tt : TT} {vs : List Nat} {σ : St} {H1 : Hp} {Q : VK} {a : Addr} {xs : List V} {as : List α}
    (R : V → α → Prop) (p : α → Bool) (f : α → V) (hs : Sq K H1 a xs) (hR : PySem.Paired R xs as) (hz : as.length < 16000000)
    (turn : ∀ (i : Nat) x b H', Ex H1 H' → xs[i]? = some x → as[i]? = some b → R x b → ∀ (C : VK) (Cn : Hp → Prop), (p b = true → ∀ H4, Ex H' H4 → C (f b) H4) → (p b = false → ∀ H3, Ex H' H3 → Cn H3) →
      g x (wipe σ vs) H' fun σ2 H2 => wipe σ2 vs = wipe σ vs ∧ tt σ2 H2 fun c H3 => if c = true then te σ2 H3 C else Cn H3)
    (k : ∀ D H', H1 D = none → Ex H1 H' → H' D = some (.lst ((as.filter p).map f)) → Q (.ref D) H') :
    LcAny K a g tt te vs σ H1 Q := by
  refine ⟨a, rfl, ?_⟩
  have main : ∀ D : Addr, H1 D = none → ∃ Pv : Nat → Hp → Prop, Pv 0 (upd H1 D (.lst [])) ∧ (∀ i H, Pv i H → Ex H1 H) ∧
      (∀ i x H', xs[i]? = some x → Pv i H' → g x (wipe σ vs) H' fun σ2 H2 => wipe σ2 vs = wipe σ vs ∧ tt σ2 H2 fun b H3 =>
        if b = true then te σ2 H3 fun y H4 => ∃ acc, H4 D = some (.lst acc) ∧ acc.length < sizeLine ∧ Pv (i + 1) (upd H4 D (.lst (acc ++ [y]))) else Pv (i + 1) H3) ∧
      ∀ H', Pv xs.length H' → Q (.ref D) H' := by
    intro D hD
    refine ⟨fun i H' => Ex H1 H' ∧ H' D = some (.lst (((as.take i).filter p).map f)), ⟨Ex.new hD, upd_same⟩, fun _ _ h => h.1, ?_, ?_⟩
    · rintro i x H' hi ⟨e, hd⟩
      obtain ⟨b, hb, hr⟩ := Paired.get i hR hi
      refine turn i x b H' e hi hb hr _ _ (fun hp1 H4 e4 => ⟨_, e4 D _ hd, ?_, (e.trans e4).mut hD, ?_⟩) fun hp0 H3 e3 => ⟨e.trans e3, ?_⟩
      · have h2 := List.length_filter_le p (as.take i)
        rw [List.length_take] at h2
        rw [List.length_map]
        unfold sizeLine
        omega
      · rw [upd_same, take_snoc hb, List.filter_append, List.filter_cons, if_pos hp1, List.map_append]
        rfl
      · rw [e3 D _ hd, take_snoc hb, List.filter_append, List.filter_cons, if_neg (by rw [hp0]; decide)]
        show _ = some (HO.lst (List.map f (_ ++ [])))
        rw [List.append_nil]
    · rintro H' ⟨e, hd⟩
      rw [Paired.len hR, List.take_length] at hd
      exact k D H' hD e hd
  rcases hs with hs | hs
  · refine .inl ⟨⟨xs, hs⟩, fun D hD => ?_⟩
    obtain ⟨Pv, h0, he, ht, hk⟩ := main D hD
    exact lc_list Pv h0 (fun i H' _ p => Evl.ex_l (he i H' p) hs) ht hk
  · refine .inr ⟨⟨xs, hs⟩, fun D hD => ?_⟩
    obtain ⟨Pv, h0, he, ht, hk⟩ := main D hD
    exact lc_tup Pv h0 (fun i H' _ p => Evl.ex_t (he i H' p) hs) ht hk

/-- .. the iterated thing a name, a field -/
theorem lcV {α : Type} {K : PySem.W.Frag} {tl te : TE} {g : TG} {tt : TT} {vs : List Nat} {σ : St} {H H1 : Hp} {Q : VK} {a : Addr} {xs : List V} {as : List α}
    (R : V → α → Prop) (p : α → Bool) (f : α → V) (hl : ∀ Q' : VK, Q' (.ref a) H1 → tl σ H Q') (hs : Sq K H1 a xs) (hR : PySem.Paired R xs as) (hz : as.length < 16000000)
    (turn : ∀ (i : Nat) x b H', Ex H1 H' → xs[i]? = some x → as[i]? = some b → R x b → ∀ (C : VK) (Cn : Hp → Prop), (p b = true → ∀ H4, Ex H' H4 → C (f b) H4) → (p b = false → ∀ H3, Ex H' H3 → Cn H3) →
      g x (wipe σ vs) H' fun σ2 H2 => wipe σ2 vs = wipe σ vs ∧ tt σ2 H2 fun c H3 => if c = true then te σ2 H3 C else Cn H3)
    (k : ∀ D H', H1 D = none → Ex H1 H' → H' D = some (.lst ((as.filter p).map f)) → Q (.ref D) H') :
    tLc (iAny K tl) g tt te vs σ H Q := hl _ (lcV0 R p f hs hR hz turn k)
/-- .. a new list -/
theorem lcVN {α : Type} {K : PySem.W.Frag} {tl te : TE} {g : TG} {tt : TT} {vs : List Nat} {σ : St} {H : Hp} {Q : VK} {xs : List V} {as : List α}
    (R : V → α → Prop) (p : α → Bool) (f : α → V) (hl : ∀ Q' : VK, (∀ a H1, H a = none → Ex H H1 → H1 a = some (.lst xs) → Q' (.ref a) H1) → tl σ H Q') (hR : PySem.Paired R xs as) (hz : as.length < 16000000)
    (turn : ∀ (i : Nat) x b H', Ex H H' → xs[i]? = some x → as[i]? = some b → R x b → ∀ (C : VK) (Cn : Hp → Prop), (p b = true → ∀ H4, Ex H' H4 → C (f b) H4) → (p b = false → ∀ H3, Ex H' H3 → Cn H3) →
      g x (wipe σ vs) H' fun σ2 H2 => wipe σ2 vs = wipe σ vs ∧ tt σ2 H2 fun c H3 => if c = true then te σ2 H3 C else Cn H3)
    (k : ∀ D H', H D = none → Ex H H' → H' D = some (.lst ((as.filter p).map f)) → Q (.ref D) H') :
    tLc (iAny K tl) g tt te vs σ H Q := hl _ fun a H1 ha e h => lcV0 R p f (Sq.l h) hR hz (fun i x b H' e1 => turn i x b H' (e.trans e1)) fun D H' hD e1 => k D H' (e.free hD) (e.trans e1)
/-- a comprehension over a list or a tuple that stands; its elements are told by what stands -/
theorem lcA0 {α : Type} {K : PySem.W.Frag} {te : TE} {g : TG} {tt : TT} {vs : List Nat} {σ : St} {H1 S : Hp} {Q : VK} {a : Addr} {xs : List V} {as : List α}
    (R : V → α → Prop) (p : α → Bool) (Post : V → α → Hp → Prop) (hS : Ex S H1) (hs : Sq K H1 a xs) (hR : PySem.Paired R xs as)
    (hm : ∀ y b H H', Ex H H' → Post y b H → Post y b H') (hz : as.length < 16000000)
    (turn : ∀ (i : Nat) x b Sc H', Ex S Sc → Ex Sc H' → Ex H1 H' → xs[i]? = some x → as[i]? = some b → R x b → ∀ (C : VK) (Cn : Hp → Prop), (p b = true → ∀ y H4, Ex H' H4 → Post y b (ext Sc H' H4) → C y H4) → (p b = false → ∀ H3, Ex H' H3 → Cn H3) →
      g x (wipe σ vs) H' fun σ2 H2 => wipe σ2 vs = wipe σ vs ∧ tt σ2 H2 fun c H3 => if c = true then te σ2 H3 C else Cn H3)
    (k : ∀ D ys H', H1 D = none → Ex H1 H' → H' D = some (.lst ys) → PySem.Paired (fun y b => Post y b (ext S H1 H')) ys (as.filter p) → Q (.ref D) H') :
    LcAny K a g tt te vs σ H1 Q := by
  refine ⟨a, rfl, ?_⟩
  have main : ∀ D : Addr, H1 D = none → ∃ Pv : Nat → Hp → Prop, Pv 0 (upd H1 D (.lst [])) ∧ (∀ i H, Pv i H → Ex H1 H) ∧
      (∀ i x H', xs[i]? = some x → Pv i H' → g x (wipe σ vs) H' fun σ2 H2 => wipe σ2 vs = wipe σ vs ∧ tt σ2 H2 fun b H3 =>
        if b = true then te σ2 H3 fun y H4 => ∃ acc, H4 D = some (.lst acc) ∧ acc.length < sizeLine ∧ Pv (i + 1) (upd H4 D (.lst (acc ++ [y]))) else Pv (i + 1) H3) ∧
      ∀ H', Pv xs.length H' → Q (.ref D) H' := by
    intro D hD
    refine ⟨fun i H' => ∃ Sc ys, Stn S H1 [D] Sc H' ∧ H' D = some (.lst ys) ∧ PySem.Paired (fun y b => Post y b Sc) ys ((as.take i).filter p), ⟨S, [], (Stn.start hS).cell hD, upd_same, .nil⟩, fun _ _ ⟨_, _, h, _⟩ => h.keep, ?_, ?_⟩
    · rintro i x H' hi ⟨Sc, ys, t, hd, hp⟩
      obtain ⟨b, hb, hr⟩ := Paired.get i hR hi
      have hlt : i < as.length := (List.getElem?_eq_some_iff.mp hb).1
      have hlD : ∀ l ∈ [D], H' l ≠ none := fun l hl => by
        cases List.mem_singleton.mp hl
        rw [hd]
        exact fun q => nomatch q
      refine turn i x b Sc H' t.sub t.cur t.keep hi hb hr _ _ (fun hp1 y H4 e4 q => ⟨ys, e4 D _ hd, ?_, _, _, (t.step hlD e4).put List.mem_cons_self, upd_same, ?_⟩) fun hp0 H3 e3 => ⟨_, ys, t.step hlD e3, e3 D _ hd, ?_⟩
      · have := Paired.len hp
        have h2 := List.length_filter_le p (as.take i)
        rw [List.length_take] at h2
        unfold sizeLine
        omega
      · rw [take_snoc hb, List.filter_append, List.filter_cons, if_pos hp1]
        exact PySem.Paired.snoc (Paired.imp hp fun y c q => hm _ _ _ _ (ext_up t.cur) q) q
      · rw [take_snoc hb, List.filter_append, List.filter_cons, if_neg (by rw [hp0]; decide)]
        show PySem.Paired _ _ (_ ++ [])
        rw [List.append_nil]
        exact Paired.imp hp fun y c q => hm _ _ _ _ (ext_up t.cur) q
    · rintro H' ⟨Sc, ys, t, hd, hp⟩
      rw [Paired.len hR, List.take_length] at hp
      exact k D ys H' hD t.keep hd (Paired.imp hp fun y c q => hm _ _ _ _ (t.fin hS) q)
  rcases hs with hs | hs
  · refine .inl ⟨⟨xs, hs⟩, fun D hD => ?_⟩
    obtain ⟨Pv, h0, he, ht, hk⟩ := main D hD
    exact lc_list Pv h0 (fun i H' _ p => Evl.ex_l (he i H' p) hs) ht hk
  · refine .inr ⟨⟨xs, hs⟩, fun D hD => ?_⟩
    obtain ⟨Pv, h0, he, ht, hk⟩ := main D hD
    exact lc_tup Pv h0 (fun i H' _ p => Evl.ex_t (he i H' p) hs) ht hk
theorem lcA {α : Type} {K : PySem.W.Frag} {tl te : TE} {g : TG} {tt : TT} {vs : List Nat} {σ : St} {H H1 S : Hp} {Q : VK} {a : Addr} {xs : List V} {as : List α}
    (R : V → α → Prop) (p : α → Bool) (Post : V → α → Hp → Prop) (hS : Ex S H1) (hl : ∀ Q' : VK, Q' (.ref a) H1 → tl σ H Q') (hs : Sq K H1 a xs) (hR : PySem.Paired R xs as)
    (hm : ∀ y b H H', Ex H H' → Post y b H → Post y b H') (hz : as.length < 16000000)
    (turn : ∀ (i : Nat) x b Sc H', Ex S Sc → Ex Sc H' → Ex H1 H' → xs[i]? = some x → as[i]? = some b → R x b → ∀ (C : VK) (Cn : Hp → Prop), (p b = true → ∀ y H4, Ex H' H4 → Post y b (ext Sc H' H4) → C y H4) → (p b = false → ∀ H3, Ex H' H3 → Cn H3) →
      g x (wipe σ vs) H' fun σ2 H2 => wipe σ2 vs = wipe σ vs ∧ tt σ2 H2 fun c H3 => if c = true then te σ2 H3 C else Cn H3)
    (k : ∀ D ys H', H1 D = none → Ex H1 H' → H' D = some (.lst ys) → PySem.Paired (fun y b => Post y b (ext S H1 H')) ys (as.filter p) → Q (.ref D) H') :
    tLc (iAny K tl) g tt te vs σ H Q := hl _ (lcA0 R p Post hS hs hR hm hz turn k)
/-- a loop over a list or a tuple -/
theorem forA {K : PySem.W.Frag} {tl : TE} {g : TG} {tb : TS} {D : Ends} {σ : St} {H H1 : Hp} {a : Addr} {xs : List V} (hl : ∀ Q' : VK, Q' (.ref a) H1 → tl σ H Q') (hs : Sq K H1 a xs)
    (Pv : Nat → St → Hp → Prop) (h0 : Pv 0 σ H1) (hk : ∀ i σ H, Pv i σ H → Sq K H1 a xs → Sq K H a xs)
    (ht : ∀ i x σ H, xs[i]? = some x → Pv i σ H → g x σ H fun σ2 H2 => tb { D with nx := Pv (i + 1), ct := Pv (i + 1), bk := D.nx } σ2 H2) (hd : ∀ σ H, Pv xs.length σ H → D.nx σ H) :
    (∀ i σ H, Pv i σ H → SqL K H1 a xs → SqL K H a xs) → (∀ i σ H, Pv i σ H → SqT K H1 a xs → SqT K H a xs) → tFor (iAny K tl) g tb D σ H := fun hL hT => by
  refine hl _ ⟨a, rfl, ?_⟩
  rcases hs with hs | hs
  · exact .inl ⟨⟨xs, hs⟩, for_list Pv h0 (fun i σ H _ p => hL i σ H p hs) ht hd⟩
  · exact .inr ⟨⟨xs, hs⟩, for_tup Pv h0 (fun i σ H _ p => hT i σ H p hs) ht hd⟩
end HR
/-! plain mathematics: schedules -/
namespace HR
/-- running sums -/
def rsF (a : Int) : List Int → List Int
  | [] => [a]
  | x :: r => a :: rsF (a + x) r
def rs (l : List Int) : List Int := rsF 0 l
theorem rsF_length (l : List Int) : ∀ a, (rsF a l).length = l.length + 1 := by
  induction l with
  | nil => intro a; rfl
  | cons x r ih => intro a; simp [rsF, ih]
theorem rs_length (l : List Int) : (rs l).length = l.length + 1 := rsF_length l 0
theorem rsF_get (l : List Int) : ∀ (a : Int) (i : Nat), i ≤ l.length → (rsF a l)[i]? = some (a + (l.take i).sum) := by
  induction l with
  | nil => intro a i h; have : i = 0 := by simpa using h
           subst this; simp [rsF]
  | cons x r ih =>
    intro a i h
    cases i with
    | zero => simp [rsF]
    | succ i =>
      have h' : i ≤ r.length := by simpa using h
      simp only [rsF, List.getElem?_cons_succ, List.take_succ_cons, List.sum_cons]
      rw [ih (a + x) i h', Int.add_assoc]
theorem rs_get (l : List Int) (i : Nat) (h : i ≤ l.length) : (rs l)[i]? = some ((l.take i).sum) := by
  unfold rs; rw [rsF_get l 0 i h, Int.zero_add]
theorem rs_snoc (l : List Int) (x : Int) : rs (l ++ [x]) = rs l ++ [(l.sum + x)] := by
  apply List.ext_getElem?
  intro i
  by_cases h : i ≤ l.length
  · rw [rs_get _ i (by simp; omega), List.getElem?_append_left (by rw [rs_length]; omega), rs_get l i h, List.take_append_of_le_length h]
  · by_cases h2 : i = l.length + 1
    · subst h2
      rw [rs_get _ _ (by simp), List.getElem?_append_right (by rw [rs_length]; omega), rs_length, Nat.sub_self]
      rw [List.take_of_length_le (by simp), List.sum_append]
      simp
    · rw [List.getElem?_eq_none (by rw [rs_length]; simp; omega), List.getElem?_eq_none (by simp [rs_length]; omega)]

/-- a talker -/
structure TkG (N : Type) (S : Type) where
  name : N
  rank : Int
  sch : S
structure Sch where
  pre : List (Int × Int)
  cyc : List (Int × Int)
/-- talks whose parts lie between 1 and 10 ** 30 -/
def TkOk (t : Int × Int) : Prop := 1 ≤ t.1 ∧ t.1 ≤ 10 ^ 30 ∧ 1 ≤ t.2 ∧ t.2 ≤ 10 ^ 30
structure Sch.Ok (s : Sch) : Prop where
  ne : s.cyc ≠ []
  lp : s.pre.length ≤ 8
  lc : s.cyc.length ≤ 8
  tp : ∀ t ∈ s.pre, TkOk t
  tc : ∀ t ∈ s.cyc, TkOk t
abbrev F2 := Int × Int → Int
def Sch.psum (s : Sch) (f : F2) : Int := (s.pre.map f).sum
def Sch.csum (s : Sch) (f : F2) : Int := (s.cyc.map f).sum
def Sch.nth (s : Sch) (i : Nat) : Int × Int := if i < s.pre.length then s.pre.getD i (0, 0) else s.cyc.getD ((i - s.pre.length) % s.cyc.length) (0, 0)
/-- the sum of the first talks -/
def Sch.sum (s : Sch) (f : F2) : Nat → Int
  | 0 => 0
  | n + 1 => s.sum f n + f (s.nth n)
theorem Sch.Ok.pos {s : Sch} (h : s.Ok) : 0 < s.cyc.length := by
  cases e : s.cyc with
  | nil => exact absurd e h.ne
  | cons a r => simp
theorem Sch.nth_ok {s : Sch} (h : s.Ok) (i : Nat) : TkOk (s.nth i) := by
  unfold Sch.nth
  split
  · rename_i hi
    rw [List.getD_eq_getElem?_getD, List.getElem?_eq_getElem hi]
    exact h.tp _ (List.getElem_mem hi)
  · have := Nat.mod_lt (i - s.pre.length) h.pos
    rw [List.getD_eq_getElem?_getD, List.getElem?_eq_getElem this]
    exact h.tc _ (List.getElem_mem this)
theorem sum_take_succ (l : List Int) (i : Nat) (h : i < l.length) : (l.take (i + 1)).sum = (l.take i).sum + l[i] := by
  rw [List.take_add_one, List.getElem?_eq_getElem h, List.sum_append]
  simp
/-- the closed form that the program reckons -/
theorem Sch.sum_closed {s : Sch} (h : s.Ok) (f : F2) (n : Nat) :
    s.sum f n = if n ≤ s.pre.length then ((s.pre.map f).take n).sum else s.psum f + ((n - s.pre.length) / s.cyc.length : Nat) * s.csum f + ((s.cyc.map f).take ((n - s.pre.length) % s.cyc.length)).sum := by
  have hp := h.pos
  induction n with
  | zero => simp [Sch.sum]
  | succ n ih =>
    rw [Sch.sum, ih]
    by_cases h1 : n < s.pre.length
    · have e : s.nth n = s.pre[n] := by
        unfold Sch.nth
        rw [if_pos h1, List.getD_eq_getElem?_getD, List.getElem?_eq_getElem h1]; rfl
      rw [if_pos (by omega), if_pos (by omega), sum_take_succ _ n (by simpa using h1), e]
      simp
    · obtain ⟨m, rfl⟩ : ∃ m, n = s.pre.length + m := ⟨n - s.pre.length, by omega⟩
      have e : s.nth (s.pre.length + m) = s.cyc[m % s.cyc.length]'(Nat.mod_lt _ hp) := by
        unfold Sch.nth
        rw [if_neg (by omega), List.getD_eq_getElem?_getD, Nat.add_sub_cancel_left, List.getElem?_eq_getElem (Nat.mod_lt _ hp)]; rfl
      have lhs : (if s.pre.length + m ≤ s.pre.length then ((s.pre.map f).take (s.pre.length + m)).sum else s.psum f + ((s.pre.length + m - s.pre.length) / s.cyc.length : Nat) * s.csum f + ((s.cyc.map f).take ((s.pre.length + m - s.pre.length) % s.cyc.length)).sum)
          = s.psum f + (m / s.cyc.length : Nat) * s.csum f + ((s.cyc.map f).take (m % s.cyc.length)).sum := by
        by_cases hm : m = 0
        · subst hm
          rw [if_pos (by omega)]
          simp only [Nat.add_zero, Nat.zero_div, Nat.zero_mod, List.take_zero, List.sum_nil]
          rw [List.take_of_length_le (by simp)]
          simp [Sch.psum]
        · rw [if_neg (by omega), Nat.add_sub_cancel_left]
      rw [lhs, if_neg (by omega), show s.pre.length + m + 1 - s.pre.length = m + 1 by omega, e]
      by_cases hw : m % s.cyc.length + 1 = s.cyc.length
      · have d1 : (m + 1) / s.cyc.length = m / s.cyc.length + 1 := by
          rw [Nat.succ_div, if_pos (Nat.dvd_of_mod_eq_zero (by rw [Nat.add_mod, ← Nat.mod_add_mod]; simp [hw]))]
        have d2 : (m + 1) % s.cyc.length = 0 := by rw [← Nat.mod_add_mod, hw, Nat.mod_self]
        rw [d1, d2]
        have e2 : s.csum f = ((s.cyc.map f).take (m % s.cyc.length)).sum + f (s.cyc[m % s.cyc.length]'(Nat.mod_lt _ hp)) := by
          have := sum_take_succ (s.cyc.map f) (m % s.cyc.length) (by simpa using Nat.mod_lt _ hp)
          rw [List.take_of_length_le (by simp; omega)] at this
          simpa [Sch.csum] using this
        rw [show ((m / s.cyc.length + 1 : Nat) : Int) = ((m / s.cyc.length : Nat) : Int) + 1 by omega, Int.add_mul, Int.one_mul]
        simp only [List.take_zero, List.sum_nil]
        omega
      · have hlt := Nat.mod_lt m hp
        have d1 : (m + 1) / s.cyc.length = m / s.cyc.length := by
          rw [Nat.succ_div, if_neg]
          · rfl
          · intro hd
            have := Nat.mod_eq_zero_of_dvd hd
            rw [← Nat.mod_add_mod, Nat.mod_eq_of_lt (by omega)] at this
            omega
        have d2 : (m + 1) % s.cyc.length = m % s.cyc.length + 1 := by rw [← Nat.mod_add_mod, Nat.mod_eq_of_lt (by omega)]
        rw [d1, d2, sum_take_succ _ _ (by simpa using hlt)]
        simp
        omega
/-- the ready time of a talk -/
def Sch.ready (s : Sch) (i : Nat) : Int := s.sum (·.1) (i + 1)
theorem Sch.sum_mono {s : Sch} (h : s.Ok) (f : F2) (hf : ∀ t, TkOk t → 1 ≤ f t) {a b : Nat} (hab : a ≤ b) : s.sum f a + ((b - a : Nat) : Int) ≤ s.sum f b := by
  obtain ⟨d, rfl⟩ : ∃ d, b = a + d := ⟨b - a, by omega⟩
  rw [Nat.add_sub_cancel_left]
  clear hab
  induction d with
  | zero => simp
  | succ d ih =>
    have := hf _ (Sch.nth_ok h (a + d))
    show _ ≤ s.sum f (a + d) + f (s.nth (a + d))
    omega
theorem Sch.ready_lt {s : Sch} (h : s.Ok) {a b : Nat} (hab : a < b) : s.ready a < s.ready b := by
  have := Sch.sum_mono h (·.1) (fun t ht => ht.1) (show a + 1 ≤ b + 1 by omega)
  unfold Sch.ready
  omega
theorem Sch.ready_pos {s : Sch} (h : s.Ok) (a : Nat) : (a : Int) + 1 ≤ s.ready a := by
  have := Sch.sum_mono h (·.1) (fun t ht => ht.1) (show 0 ≤ a + 1 by omega)
  unfold Sch.ready
  simp only [Sch.sum] at this ⊢
  omega
/-- how many talks are ready up to q, as the program reckons it -/
def Sch.cnt (s : Sch) (q : Int) : Nat :=
  if q < s.psum (·.1) then (((rs (s.pre.map (·.1))).drop 1).filter fun x => decide (x ≤ q)).length
  else s.pre.length + ((q - s.psum (·.1)) / s.csum (·.1)).toNat * s.cyc.length + (((rs (s.cyc.map (·.1))).drop 1).filter fun x => decide (x ≤ (q - s.psum (·.1)) % s.csum (·.1))).length
/-- a list that rises: how many are at most q -/
theorem filter_rise (l : List Int) (hr : ∀ i j, (hij : i < j) → (hj : j < l.length) → l[i]'(by omega) < l[j]) (q : Int) (n : Nat) :
    n < (l.filter fun x => decide (x ≤ q)).length ↔ ∃ h : n < l.length, l[n] ≤ q := by
  induction l generalizing n with
  | nil => simp
  | cons x r ih =>
    have ih' := ih (fun i j hij hj => by
      have := hr (i + 1) (j + 1) (by omega) (by simp; omega)
      simpa using this)
    by_cases hx : x ≤ q
    · rw [List.filter_cons, if_pos (by simpa using hx)]
      cases n with
      | zero => simp [hx]
      | succ n =>
        simp only [List.length_cons, Nat.add_lt_add_iff_right, List.getElem_cons_succ]
        exact ih' n
    · rw [List.filter_cons, if_neg (by simpa using hx)]
      rw [ih' n]
      constructor
      · rintro ⟨h, hq⟩
        have := hr 0 (n + 1) (by omega) (by simp; omega)
        simp at this
        omega
      · rintro ⟨h, hq⟩
        cases n with
        | zero => simp at hq; omega
        | succ n =>
          have := hr 0 (n + 1) (by omega) h
          simp at this hq
          omega
theorem rs_drop_get (l : List Int) (i : Nat) (h : i < ((rs l).drop 1).length) : ((rs l).drop 1)[i] = (l.take (i + 1)).sum := by
  have h' : i + 1 ≤ l.length := by rw [List.length_drop, rs_length] at h; omega
  have := rs_get l (i + 1) h'
  rw [List.getElem_drop]
  have e : (rs l)[1 + i]? = some ((l.take (i + 1)).sum) := by rw [Nat.add_comm]; exact this
  rw [List.getElem?_eq_some_iff] at e
  exact e.2
theorem rs_rise (l : List Int) (hl : ∀ x ∈ l, 1 ≤ x) : ∀ i j, (hij : i < j) → (hj : j < ((rs l).drop 1).length) → ((rs l).drop 1)[i]'(by omega) < ((rs l).drop 1)[j] := by
  intro i j hij hj
  rw [rs_drop_get, rs_drop_get]
  have hj' : j + 1 ≤ l.length := by rw [List.length_drop, rs_length] at hj; omega
  obtain ⟨d, rfl⟩ : ∃ d, j = i + 1 + d := ⟨j - i - 1, by omega⟩
  clear hij hj
  induction d with
  | zero =>
    rw [sum_take_succ l (i + 1 + 0) (by omega)]
    have := hl _ (List.getElem_mem (show i + 1 + 0 < l.length by omega))
    show (l.take (i + 1)).sum < (l.take (i + 1)).sum + _
    omega
  | succ d ih =>
    have ih := ih (by omega)
    rw [sum_take_succ l (i + 1 + (d + 1)) (by omega)]
    have := hl _ (List.getElem_mem (show i + 1 + (d + 1) < l.length by omega))
    show (l.take (i + 1)).sum < (l.take (i + 1 + d + 1)).sum + _
    omega
theorem Sch.csum_pos {s : Sch} (h : s.Ok) (f : F2) (hf : ∀ t, TkOk t → 1 ≤ f t) : 1 ≤ s.csum f := by
  cases e : s.cyc with
  | nil => exact absurd e h.ne
  | cons a r =>
    unfold Sch.csum
    rw [e]
    have h1 : ∀ t ∈ a :: r, 1 ≤ f t := fun t ht => hf t (h.tc t (by rw [e]; exact ht))
    have : ∀ l : List (Int × Int), (∀ t ∈ l, 1 ≤ f t) → 0 ≤ (l.map f).sum := by
      intro l
      induction l with
      | nil => simp
      | cons b r ih =>
        intro hl
        have := ih fun t ht => hl t (List.mem_cons_of_mem _ ht)
        have := hl b List.mem_cons_self
        simp
        omega
    have h2 := this r fun t ht => h1 t (List.mem_cons_of_mem _ ht)
    have h3 := h1 a List.mem_cons_self
    simp
    omega
theorem Sch.psum_nonneg {s : Sch} (h : s.Ok) (f : F2) (hf : ∀ t, TkOk t → 1 ≤ f t) : 0 ≤ s.psum f := by
  have : ∀ l : List (Int × Int), (∀ t ∈ l, 1 ≤ f t) → 0 ≤ (l.map f).sum := by
    intro l
    induction l with
    | nil => simp
    | cons b r ih =>
      intro hl
      have := ih fun t ht => hl t (List.mem_cons_of_mem _ ht)
      have := hl b List.mem_cons_self
      simp
      omega
  exact this s.pre fun t ht => hf t (h.tp t ht)
theorem Sch.cnt_lt {s : Sch} (h : s.Ok) (q : Int) (n : Nat) : n < s.cnt q ↔ s.ready n ≤ q := by
  have hp := h.pos
  have hc := Sch.csum_pos h (·.1) (fun t ht => ht.1)
  have m1 : ∀ x ∈ s.pre.map (·.1), 1 ≤ x := by
    intro x hx; obtain ⟨t, ht, rfl⟩ := List.mem_map.mp hx; exact (h.tp t ht).1
  have m2 : ∀ x ∈ s.cyc.map (·.1), 1 ≤ x := by
    intro x hx; obtain ⟨t, ht, rfl⟩ := List.mem_map.mp hx; exact (h.tc t ht).1
  have f1 := fun q n => filter_rise _ (rs_rise _ m1) q n
  have f2 := fun q n => filter_rise _ (rs_rise _ m2) q n
  have l1 : ((rs (s.pre.map (·.1))).drop 1).length = s.pre.length := by simp [rs_length]
  have l2 : ((rs (s.cyc.map (·.1))).drop 1).length = s.cyc.length := by simp [rs_length]
  have rd := fun n => Sch.sum_closed h (·.1) n
  unfold Sch.cnt
  by_cases h1 : q < s.psum (·.1)
  · rw [if_pos h1, f1]
    constructor
    · rintro ⟨hn, e⟩
      rw [rs_drop_get] at e
      rw [l1] at hn
      unfold Sch.ready
      rw [rd, if_pos (by omega)]
      exact e
    · intro e
      by_cases hn : n < s.pre.length
      · refine ⟨by rw [l1]; exact hn, ?_⟩
        rw [rs_drop_get]
        unfold Sch.ready at e
        rw [rd, if_pos (by omega)] at e
        exact e
      · exfalso
        have h2 : s.sum (·.1) s.pre.length = s.psum (·.1) := by
          rw [rd, if_pos (Nat.le_refl _), List.take_of_length_le (by simp)]; rfl
        have h3 := Sch.sum_mono h (·.1) (fun t ht => ht.1) (show s.pre.length ≤ n + 1 by omega)
        unfold Sch.ready at e
        omega
  · rw [if_neg h1]
    generalize hd : q - s.psum (·.1) = d
    have d0 : 0 ≤ d := by omega
    have q0 : 0 ≤ d / s.csum (·.1) := Int.ediv_nonneg d0 (by omega)
    have r0 := Int.emod_nonneg d (show s.csum (·.1) ≠ 0 by omega)
    have r1 := Int.emod_lt_of_pos d (show 0 < s.csum (·.1) by omega)
    have er := Int.mul_ediv_add_emod d (s.csum (·.1))
    generalize hk : (d / s.csum (·.1)).toNat = k
    have ek : d / s.csum (·.1) = (k : Int) := by omega
    rw [ek] at er
    generalize hr : d % s.csum (·.1) = r at *
    have fl : (((rs (s.cyc.map (·.1))).drop 1).filter fun x => decide (x ≤ r)).length ≤ s.cyc.length := by
      rw [← l2]; exact List.length_filter_le _ _
    have tot : ((s.cyc.map (·.1)).take s.cyc.length).sum = s.csum (·.1) := by rw [List.take_of_length_le (by simp)]; rfl
    have flt : (((rs (s.cyc.map (·.1))).drop 1).filter fun x => decide (x ≤ r)).length < s.cyc.length := by
      rcases Nat.lt_or_ge (((rs (s.cyc.map (·.1))).drop 1).filter fun x => decide (x ≤ r)).length s.cyc.length with z | z
      · exact z
      · exfalso
        have := (f2 r (s.cyc.length - 1)).mp (by omega)
        obtain ⟨hn, e⟩ := this
        rw [rs_drop_get, show s.cyc.length - 1 + 1 = s.cyc.length by omega, tot] at e
        omega
    by_cases hn : n < s.pre.length
    · have a1 : n < s.pre.length + k * s.cyc.length + (((rs (s.cyc.map (·.1))).drop 1).filter fun x => decide (x ≤ r)).length := by omega
      refine iff_of_true a1 ?_
      have h2 : s.sum (·.1) s.pre.length = s.psum (·.1) := by
        rw [rd, if_pos (Nat.le_refl _), List.take_of_length_le (by simp)]; rfl
      have h3 := Sch.sum_mono h (·.1) (fun t ht => ht.1) (show n + 1 ≤ s.pre.length by omega)
      unfold Sch.ready
      omega
    · obtain ⟨m, rfl⟩ : ∃ m, n = s.pre.length + m := ⟨n - s.pre.length, by omega⟩
      unfold Sch.ready
      rw [rd, if_neg (by omega), show s.pre.length + m + 1 - s.pre.length = m + 1 by omega]
      -- m + 1 talks of the cycle
      have mm := Nat.div_add_mod m s.cyc.length
      have ml := Nat.mod_lt m hp
      have key : ((m + 1) / s.cyc.length : Nat) * s.csum (·.1) + ((s.cyc.map (·.1)).take ((m + 1) % s.cyc.length)).sum = (m / s.cyc.length : Nat) * s.csum (·.1) + ((s.cyc.map (·.1)).take (m % s.cyc.length + 1)).sum := by
        by_cases hw : m % s.cyc.length + 1 = s.cyc.length
        · have d1 : (m + 1) / s.cyc.length = m / s.cyc.length + 1 := by
            rw [Nat.succ_div, if_pos (Nat.dvd_of_mod_eq_zero (by rw [← Nat.mod_add_mod, hw, Nat.mod_self]))]
          have d2 : (m + 1) % s.cyc.length = 0 := by rw [← Nat.mod_add_mod, hw, Nat.mod_self]
          rw [d1, d2, hw, tot, show ((m / s.cyc.length + 1 : Nat) : Int) = ((m / s.cyc.length : Nat) : Int) + 1 by omega, Int.add_mul, Int.one_mul]
          simp
        · have d2 : (m + 1) % s.cyc.length = m % s.cyc.length + 1 := by rw [← Nat.mod_add_mod, Nat.mod_eq_of_lt (by omega)]
          have d1 : (m + 1) / s.cyc.length = m / s.cyc.length := by
            rw [Nat.succ_div, if_neg (fun hd => by have := Nat.mod_eq_zero_of_dvd hd; omega)]
            rfl
          rw [d1, d2]
      rw [Int.add_assoc, key]
      have hlt2 : m % s.cyc.length < ((rs (s.cyc.map (·.1))).drop 1).length := by rw [l2]; exact ml
      have gt : ((rs (s.cyc.map (·.1))).drop 1)[m % s.cyc.length] = ((s.cyc.map (·.1)).take (m % s.cyc.length + 1)).sum := rs_drop_get _ _ hlt2
      have g1 : 1 ≤ ((s.cyc.map (·.1)).take (m % s.cyc.length + 1)).sum := by
        have := rs_rise _ m2
        rcases Nat.eq_zero_or_pos (m % s.cyc.length) with z | z
        · rw [z]
          cases e : s.cyc with
          | nil => exact absurd e h.ne
          | cons a t =>
            have := m2 a.1 (by rw [e]; simp)
            simpa using this
        · have := this 0 (m % s.cyc.length) z hlt2
          rw [rs_drop_get, rs_drop_get] at this
          have h0 : 1 ≤ ((s.cyc.map (·.1)).take (0 + 1)).sum := by
            cases e : s.cyc with
            | nil => exact absurd e h.ne
            | cons a t =>
              have := m2 a.1 (by rw [e]; simp)
              simpa using this
          omega
      have g2 : ((s.cyc.map (·.1)).take (m % s.cyc.length + 1)).sum ≤ s.csum (·.1) := by
        rcases Nat.lt_or_ge (m % s.cyc.length + 1) s.cyc.length with z | z
        · have := rs_rise _ m2 (m % s.cyc.length) (s.cyc.length - 1) (by omega) (by rw [l2]; omega)
          rw [rs_drop_get, rs_drop_get, show s.cyc.length - 1 + 1 = s.cyc.length by omega, tot] at this
          omega
        · rw [show m % s.cyc.length + 1 = s.cyc.length by omega, tot]
          omega
      generalize hF : (((rs (s.cyc.map (·.1))).drop 1).filter fun x => decide (x ≤ r)).length = F at *
      generalize hS : ((s.cyc.map (·.1)).take (m % s.cyc.length + 1)).sum = T at *
      generalize hC : s.csum (·.1) = C at *
      generalize hA : m / s.cyc.length = A at *
      generalize hB : m % s.cyc.length = B at *
      have fB := f2 r B
      rw [hF] at fB
      have eq1 : q = s.psum (·.1) + (C * k + r) := by omega
      have comm : C * (k : Int) = (k : Int) * C := Int.mul_comm _ _
      have lenc : s.cyc.length * A + B = m := by rw [← mm]
      have lcomm : s.cyc.length * A = A * s.cyc.length := Nat.mul_comm _ _
      rcases Nat.lt_trichotomy A k with z | z | z
      · -- below
        have z1 : A + 1 ≤ k := z
        have i1 : ((A : Int) + 1) * C ≤ (k : Int) * C := Int.mul_le_mul_of_nonneg_right (by omega) (by omega)
        have n1 : (A + 1) * s.cyc.length ≤ k * s.cyc.length := Nat.mul_le_mul_right _ z1
        rw [Int.add_mul, Int.one_mul] at i1
        rw [Nat.add_mul, Nat.one_mul] at n1
        refine iff_of_true (by omega) (by omega)
      · subst z
        constructor
        · intro x
          have : B < F := by omega
          obtain ⟨hn2, e⟩ := fB.mp this
          rw [gt] at e
          omega
        · intro x
          have : B < F := fB.mpr ⟨hlt2, by rw [gt]; omega⟩
          omega
      · have z1 : k + 1 ≤ A := z
        have i1 : ((k : Int) + 1) * C ≤ (A : Int) * C := Int.mul_le_mul_of_nonneg_right (by omega) (by omega)
        have n1 : (k + 1) * s.cyc.length ≤ A * s.cyc.length := Nat.mul_le_mul_right _ z1
        rw [Int.add_mul, Int.one_mul] at i1
        rw [Nat.add_mul, Nat.one_mul] at n1
        refine iff_of_false (by omega) (by omega)
end HR
/-! plain mathematics: the clocks of ranks -/
namespace HR
variable {N : Type}
abbrev TkN (N : Type) := TkG N Sch
def AllOk (ms : List (TkN N)) : Prop := ∀ m ∈ ms, m.sch.Ok
def lenR (m : TkN N) (q : Int) : Int := m.sch.sum (·.2) (m.sch.cnt q)
def rankLen (ms : List (TkN N)) (r q : Int) : Int := ((ms.filter fun m => decide (m.rank = r)).map fun m => lenR m q).sum
def lix (ms : List (TkN N)) (r q : Int) : Int := q + rankLen ms r q
theorem Sch.cnt_mono {s : Sch} (h : s.Ok) {a b : Int} (hab : a ≤ b) : s.cnt a ≤ s.cnt b := by
  rcases Nat.lt_or_ge (s.cnt b) (s.cnt a) with z | z
  · have := (Sch.cnt_lt h a (s.cnt b)).mp z
    have := (Sch.cnt_lt h b (s.cnt b)).mpr (by omega)
    omega
  · exact z
theorem Sch.cnt_zero {s : Sch} (h : s.Ok) {a : Int} (ha : a ≤ 0) : s.cnt a = 0 := by
  rcases Nat.eq_zero_or_pos (s.cnt a) with z | z
  · exact z
  · have := (Sch.cnt_lt h a 0).mp z
    have := Sch.ready_pos h 0
    omega
theorem Sch.cnt_le {s : Sch} (h : s.Ok) (q : Int) : (s.cnt q : Int) ≤ max q 0 := by
  rcases Nat.eq_zero_or_pos (s.cnt q) with z | z
  · rw [z]; omega
  · have := (Sch.cnt_lt h q (s.cnt q - 1)).mp (by omega)
    have := Sch.ready_pos h (s.cnt q - 1)
    omega
theorem Sch.sum2_mono {s : Sch} (h : s.Ok) {a b : Nat} (hab : a ≤ b) : s.sum (·.2) a + ((b - a : Nat) : Int) ≤ s.sum (·.2) b := Sch.sum_mono h (·.2) (fun t ht => ht.2.2.1) hab
theorem Sch.sum2_le {s : Sch} (h : s.Ok) (n : Nat) : s.sum (·.2) n ≤ (n : Int) * 10 ^ 30 := by
  induction n with
  | zero => simp [Sch.sum]
  | succ n ih =>
    have := (Sch.nth_ok h n).2.2.2
    show s.sum (·.2) n + (s.nth n).2 ≤ _
    have e : ((n + 1 : Nat) : Int) * 10 ^ 30 = (n : Int) * 10 ^ 30 + 10 ^ 30 := by rw [Int.natCast_succ, Int.add_mul, Int.one_mul]
    omega
theorem lenR_mono {m : TkN N} (h : m.sch.Ok) {a b : Int} (hab : a ≤ b) : lenR m a ≤ lenR m b := by
  have := Sch.sum2_mono h (Sch.cnt_mono h hab)
  unfold lenR
  omega
theorem lenR_zero {m : TkN N} (h : m.sch.Ok) {a : Int} (ha : a ≤ 0) : lenR m a = 0 := by
  unfold lenR; rw [Sch.cnt_zero h ha]; rfl
theorem lenR_nonneg {m : TkN N} (h : m.sch.Ok) (q : Int) : 0 ≤ lenR m q := by
  have := Sch.sum2_mono h (Nat.zero_le (m.sch.cnt q))
  simp only [Sch.sum] at this
  unfold lenR
  omega
theorem lenR_le {m : TkN N} (h : m.sch.Ok) (q : Int) : lenR m q ≤ max q 0 * 10 ^ 30 := by
  have h1 := Sch.sum2_le h (m.sch.cnt q)
  have h2 := Sch.cnt_le h q
  have h3 : (m.sch.cnt q : Int) * 10 ^ 30 ≤ max q 0 * 10 ^ 30 := Int.mul_le_mul_of_nonneg_right h2 (by decide)
  unfold lenR
  omega
theorem sum_map_le {α : Type} (l : List α) (f g : α → Int) (h : ∀ a ∈ l, f a ≤ g a) : (l.map f).sum ≤ (l.map g).sum := by
  induction l with
  | nil => simp
  | cons a r ih =>
    have := ih fun b hb => h b (List.mem_cons_of_mem _ hb)
    have := h a List.mem_cons_self
    simp
    omega
theorem sum_map_zero {α : Type} (l : List α) (f : α → Int) (h : ∀ a ∈ l, f a = 0) : (l.map f).sum = 0 := by
  induction l with
  | nil => simp
  | cons a r ih =>
    have := ih fun b hb => h b (List.mem_cons_of_mem _ hb)
    have := h a List.mem_cons_self
    simp
    omega
theorem rankLen_mono {ms : List (TkN N)} (h : AllOk ms) (r : Int) {a b : Int} (hab : a ≤ b) : rankLen ms r a ≤ rankLen ms r b :=
  sum_map_le _ _ _ fun m hm => lenR_mono (h m (List.mem_filter.mp hm).1) hab
theorem rankLen_zero {ms : List (TkN N)} (h : AllOk ms) (r : Int) {a : Int} (ha : a ≤ 0) : rankLen ms r a = 0 :=
  sum_map_zero _ _ fun m hm => lenR_zero (h m (List.mem_filter.mp hm).1) ha
theorem rankLen_nonneg {ms : List (TkN N)} (h : AllOk ms) (r q : Int) : 0 ≤ rankLen ms r q := by
  have := sum_map_le (ms.filter fun m => decide (m.rank = r)) (fun _ => 0) (fun m => lenR m q) fun m hm => lenR_nonneg (h m (List.mem_filter.mp hm).1) q
  rw [sum_map_zero _ _ fun _ _ => rfl] at this
  exact this
theorem sum_const {α : Type} (l : List α) (c : Int) : (l.map fun _ => c).sum = (l.length : Int) * c := by
  induction l with
  | nil => simp
  | cons a r ih => simp [ih, Int.add_mul]; omega
theorem rankLen_le {ms : List (TkN N)} (h : AllOk ms) (h10 : ms.length ≤ 10) (r q : Int) : rankLen ms r q ≤ max q 0 * 10 ^ 31 := by
  have := sum_map_le (ms.filter fun m => decide (m.rank = r)) (fun m => lenR m q) (fun _ => max q 0 * 10 ^ 30) fun m hm => lenR_le (h m (List.mem_filter.mp hm).1) q
  rw [sum_const] at this
  have hl := List.length_filter_le (fun m : TkN N => decide (m.rank = r)) ms
  have h3 : ((ms.filter fun m => decide (m.rank = r)).length : Int) * (max q 0 * 10 ^ 30) ≤ 10 * (max q 0 * 10 ^ 30) := Int.mul_le_mul_of_nonneg_right (by omega) (by omega)
  have e : rankLen ms r q = ((ms.filter fun m => decide (m.rank = r)).map fun m => lenR m q).sum := rfl
  omega
theorem lix_lt {ms : List (TkN N)} (h : AllOk ms) (r : Int) {a b : Int} (hab : a ≤ b) : lix ms r a + (b - a) ≤ lix ms r b := by
  have := rankLen_mono h r hab
  unfold lix
  omega
theorem lix_ge {ms : List (TkN N)} (h : AllOk ms) (r q : Int) : q ≤ lix ms r q := by
  have := rankLen_nonneg h r q
  unfold lix
  omega
theorem lix_zero {ms : List (TkN N)} (h : AllOk ms) (r : Int) : lix ms r 0 = 0 := by
  unfold lix; rw [rankLen_zero h r (Int.le_refl 0)]; rfl
/-- q quiet ticks lie among the first L ticks left to the rank -/
structure IsQa (ms : List (TkN N)) (r L q : Int) : Prop where
  nn : 0 ≤ q
  up : L ≤ lix ms r q
  lo : ∀ p, 0 ≤ p → p < q → lix ms r p < L
theorem IsQa.unique {ms : List (TkN N)} {r L p q : Int} (a : IsQa ms r L p) (b : IsQa ms r L q) : p = q := by
  rcases Int.lt_trichotomy p q with z | z | z
  · have := b.lo p a.nn z
    have := a.up
    omega
  · exact z
  · have := a.lo q b.nn z
    have := b.up
    omega
theorem exists_qa {ms : List (TkN N)} (h : AllOk ms) (r L : Int) : ∃ q, IsQa ms r L q := by
  have key : ∀ n : Nat, ∀ L : Int, L ≤ n → ∃ q, IsQa ms r L q := by
    intro n
    induction n with
    | zero => exact fun L hL => ⟨0, Int.le_refl 0, by rw [lix_zero h]; omega, fun p _ _ => by omega⟩
    | succ n ih =>
      intro L hL
      by_cases e : L ≤ n
      · exact ih L e
      · obtain ⟨q, hq⟩ := ih n (Int.le_refl _)
        have h1 : L = n + 1 := by omega
        by_cases e2 : L ≤ lix ms r q
        · exact ⟨q, hq.nn, e2, fun p hp hpq => by have := hq.lo p hp hpq; omega⟩
        · refine ⟨q + 1, by have := hq.nn; omega, ?_, fun p hp hpq => ?_⟩
          · have := lix_lt h r (show q ≤ q + 1 by omega)
            have := hq.up
            omega
          · by_cases z : p < q
            · have := hq.lo p hp z; omega
            · have : p = q := by omega
              subst this; omega
  exact key L.toNat L (by omega)
open Classical in
noncomputable def qa (ms : List (TkN N)) (r L : Int) : Int := if h : ∃ q, IsQa ms r L q then choose h else 0
theorem qa_spec {ms : List (TkN N)} (h : AllOk ms) (r L : Int) : IsQa ms r L (qa ms r L) := by
  unfold qa
  rw [dif_pos (exists_qa h r L)]
  exact Classical.choose_spec (exists_qa h r L)
theorem qa_eq {ms : List (TkN N)} (h : AllOk ms) {r L q : Int} (hq : IsQa ms r L q) : qa ms r L = q := (qa_spec h r L).unique hq
theorem qa_le {ms : List (TkN N)} (h : AllOk ms) {r L : Int} (hL : 0 ≤ L) : qa ms r L ≤ L := by
  have s := qa_spec h r L
  rcases Int.lt_or_le L (qa ms r L) with z | z
  · have := s.lo L hL z
    have := lix_ge h r L
    omega
  · exact z
/-- ticks left to the rank k + 1 among the first ones -/
noncomputable def la (ms : List (TkN N)) (T : Int) : Nat → Int
  | 0 => T
  | k + 1 => qa ms ((k : Int) + 1) (la ms T k)
theorem la_nonneg {ms : List (TkN N)} (h : AllOk ms) {T : Int} (hT : 0 ≤ T) : ∀ k, 0 ≤ la ms T k
  | 0 => hT
  | k + 1 => (qa_spec h _ _).nn
theorem la_le {ms : List (TkN N)} (h : AllOk ms) {T : Int} (hT : 0 ≤ T) : ∀ k, la ms T k ≤ T
  | 0 => Int.le_refl _
  | k + 1 => Int.le_trans (qa_le h (la_nonneg h hT k)) (la_le h hT k)
/-- the tick with an index among those left to rank k + 1 -/
def tk (ms : List (TkN N)) : Nat → Int → Int
  | 0, i => i
  | k + 1, i => tk ms k (lix ms ((k : Int) + 1) i)
theorem lix_le {ms : List (TkN N)} (h : AllOk ms) (h10 : ms.length ≤ 10) (r : Int) {q : Int} (hq : 0 ≤ q) : lix ms r q ≤ q * 10 ^ 32 := by
  have := rankLen_le h h10 r q
  unfold lix
  have : max q 0 = q := by omega
  rw [this] at *
  omega
end HR
/-! plain mathematics: what a simulation finds -/
namespace HR
variable {N : Type}
/-- whether a talk has the ready time q -/
def Sch.has (s : Sch) (q : Int) : Bool := decide (0 < s.cnt q) && decide (s.ready (s.cnt q - 1) = q)
theorem Sch.has_iff {s : Sch} {q : Int} : s.has q = true ↔ 0 < s.cnt q ∧ s.ready (s.cnt q - 1) = q := by
  unfold Sch.has; rw [Bool.and_eq_true, decide_eq_true_eq, decide_eq_true_eq]
/-- .. and how long it is -/
def Sch.run (s : Sch) (q : Int) : Int := if s.has q = true then (s.nth (s.cnt q - 1)).2 else 0
theorem Sch.cnt_pred {s : Sch} (h : s.Ok) (q : Int) : s.cnt q = s.cnt (q - 1) + if s.has q = true then 1 else 0 := by
  by_cases hh : s.has q = true
  · rw [if_pos hh]
    obtain ⟨h1, h2⟩ := Sch.has_iff.mp hh
    have a := Sch.cnt_lt h (q - 1) (s.cnt q - 1)
    have b : s.cnt q - 1 ≤ s.cnt (q - 1) := by
      rcases Nat.lt_or_ge 1 (s.cnt q) with z | z
      · have c := (Sch.cnt_lt h (q - 1) (s.cnt q - 2)).mpr (by have := Sch.ready_lt h (show s.cnt q - 2 < s.cnt q - 1 by omega); omega)
        omega
      · omega
    have c : ¬ s.cnt q - 1 < s.cnt (q - 1) := fun z => by have := a.mp z; omega
    omega
  · rw [if_neg hh]
    have h0 := Sch.cnt_mono h (show q - 1 ≤ q by omega)
    rcases Nat.eq_zero_or_pos (s.cnt q) with z | z
    · omega
    · have h1 := (Sch.cnt_lt h q (s.cnt q - 1)).mp (by omega)
      have h2 : s.ready (s.cnt q - 1) ≠ q := fun e => hh (Sch.has_iff.mpr ⟨z, e⟩)
      have h3 := (Sch.cnt_lt h (q - 1) (s.cnt q - 1)).mpr (by omega)
      omega
theorem Sch.run_nonneg {s : Sch} (h : s.Ok) (q : Int) : 0 ≤ s.run q := by
  unfold Sch.run
  split
  · have := (Sch.nth_ok h (s.cnt q - 1)).2.2.1; omega
  · omega
theorem Sch.run_pos {s : Sch} (h : s.Ok) {q : Int} (hh : s.has q = true) : 1 ≤ s.run q := by
  unfold Sch.run
  rw [if_pos hh]
  exact (Sch.nth_ok h (s.cnt q - 1)).2.2.1
theorem lenR_pred {m : TkN N} (h : m.sch.Ok) (q : Int) : lenR m q = lenR m (q - 1) + m.sch.run q := by
  unfold lenR Sch.run
  have := Sch.cnt_pred h q
  by_cases hh : m.sch.has q = true
  · rw [if_pos hh] at this ⊢
    rw [this]
    show m.sch.sum (·.2) (m.sch.cnt (q - 1)) + (m.sch.nth (m.sch.cnt (q - 1))).2 = _
    rw [Nat.add_sub_cancel]
  · rw [if_neg hh] at this ⊢
    rw [this]; simp
/-- the ticks of a rank's run before the j-th talker -/
def off (ms : List (TkN N)) (r q : Int) (j : Nat) : Int := (((ms.take j).filter fun m => decide (m.rank = r)).map fun m => m.sch.run q).sum
theorem off_succ {ms : List (TkN N)} {j : Nat} {m : TkN N} (h : ms[j]? = some m) (r q : Int) : off ms r q (j + 1) = off ms r q j + if m.rank = r then m.sch.run q else 0 := by
  unfold off
  rw [List.take_add_one, h, List.filter_append, List.map_append, List.sum_append]
  by_cases e : m.rank = r
  · simp [e]
  · simp [e]
theorem off_le {ms : List (TkN N)} (h : AllOk ms) (r q : Int) {a b : Nat} (hab : a ≤ b) : off ms r q a ≤ off ms r q b := by
  obtain ⟨d, rfl⟩ : ∃ d, b = a + d := ⟨b - a, by omega⟩
  clear hab
  induction d with
  | zero => exact Int.le_refl _
  | succ d ih =>
    cases e : ms[a + d]? with
    | none =>
      have : off ms r q (a + (d + 1)) = off ms r q (a + d) := by
        unfold off
        have := List.getElem?_eq_none_iff.mp e
        rw [List.take_of_length_le (by omega), List.take_of_length_le (by omega)]
      omega
    | some m =>
      have h1 := off_succ e r q
      have h2 := Sch.run_nonneg (h m (List.mem_of_getElem? e)) q
      rw [show a + (d + 1) = a + d + 1 by omega, h1]
      split <;> omega
theorem off_nonneg {ms : List (TkN N)} (h : AllOk ms) (r q : Int) (j : Nat) : 0 ≤ off ms r q j := by
  have := off_le h r q (Nat.zero_le j)
  have e : off ms r q 0 = 0 := rfl
  omega
theorem off_all {ms : List (TkN N)} (h : AllOk ms) (r q : Int) : rankLen ms r q = rankLen ms r (q - 1) + off ms r q ms.length := by
  unfold rankLen off
  rw [List.take_length]
  induction ms with
  | nil => simp
  | cons m ms ih =>
    have ih := ih fun a ha => h a (List.mem_cons_of_mem _ ha)
    have := lenR_pred (h m List.mem_cons_self) q
    rw [List.filter_cons]
    split
    · simp only [List.map_cons, List.sum_cons]
      omega
    · exact ih
/-- someone speaks in a run -/
theorem off_find {ms : List (TkN N)} (r q : Int) {o : Int} (h0 : 0 ≤ o) : ∀ n, n ≤ ms.length → o < off ms r q n → ∃ j m, j < n ∧ ms[j]? = some m ∧ m.rank = r ∧ off ms r q j ≤ o ∧ o < off ms r q j + m.sch.run q
  | 0, _, h => by have e : off ms r q 0 = 0 := rfl; omega
  | n + 1, hn, h => by
    by_cases z : o < off ms r q n
    · obtain ⟨j, m, h1, h2⟩ := off_find r q h0 n (by omega) z
      exact ⟨j, m, by omega, h2⟩
    · have e : ms[n]? = some ms[n] := List.getElem?_eq_getElem (by omega)
      rw [off_succ e] at h
      refine ⟨n, ms[n], by omega, e, ?_⟩
      by_cases y : ms[n].rank = r
      · rw [if_pos y] at h
        exact ⟨y, by omega, h⟩
      · rw [if_neg y] at h
        omega
/-- a talker in a simulation: the index of its talk, the silence that is left before it, the ticks spoken of it -/
structure Cell where
  k : Nat
  c : Int
  s : Int
def cellOf (s : Sch) (q b o : Int) : Cell := if s.has q = true ∧ o < b + s.run q then ⟨s.cnt q - 1, 0, max 0 (o - b)⟩ else ⟨s.cnt q, s.ready (s.cnt q) - q, 0⟩
noncomputable def lOf (ms : List (TkN N)) (T : Int) (m : TkN N) : Int := la ms T (m.rank.toNat - 1)
noncomputable def qOf (ms : List (TkN N)) (T : Int) (m : TkN N) : Int := la ms T m.rank.toNat
noncomputable def oOf (ms : List (TkN N)) (T : Int) (m : TkN N) : Int := lOf ms T m - qOf ms T m - rankLen ms m.rank (qOf ms T m - 1)
noncomputable def cel (ms : List (TkN N)) (T : Int) (j : Nat) (m : TkN N) : Cell := cellOf m.sch (qOf ms T m) (off ms m.rank (qOf ms T m) j) (oOf ms T m)
/-- the tick T is left to the rank k + 1 -/
def lt (ms : List (TkN N)) (T : Int) : Nat → Prop
  | 0 => True
  | k + 1 => lt ms T k ∧ la ms T k = lix ms ((k : Int) + 1) (la ms T (k + 1))
theorem qa_succ {ms : List (TkN N)} (h : AllOk ms) (r L : Int) (hL : 0 ≤ L) : (L = lix ms r (qa ms r L) → qa ms r (L + 1) = qa ms r L + 1) ∧ (L ≠ lix ms r (qa ms r L) → qa ms r (L + 1) = qa ms r L) := by
  have s := qa_spec h r L
  refine ⟨fun e => qa_eq h ⟨by have := s.nn; omega, ?_, fun p p0 p1 => ?_⟩, fun e => qa_eq h ⟨s.nn, by have := s.up; omega, fun p p0 p1 => by have := s.lo p p0 p1; omega⟩⟩
  · have := lix_lt h r (show qa ms r L ≤ qa ms r L + 1 by omega)
    omega
  · by_cases z : p < qa ms r L
    · have := s.lo p p0 z; omega
    · have : p = qa ms r L := by omega
      subst this; omega
open Classical in
theorem la_succ {ms : List (TkN N)} (h : AllOk ms) {T : Int} (hT : 0 ≤ T) : ∀ k, la ms (T + 1) k = la ms T k + if lt ms T k then 1 else 0
  | 0 => by simp [la, lt]
  | k + 1 => by
    have ih := la_succ h hT k
    have qs := qa_succ h ((k : Int) + 1) (la ms T k) (la_nonneg h hT k)
    show qa ms ((k : Int) + 1) (la ms (T + 1) k) = qa ms ((k : Int) + 1) (la ms T k) + _
    by_cases hk : lt ms T k
    · rw [if_pos hk] at ih
      rw [ih]
      by_cases e : la ms T k = lix ms ((k : Int) + 1) (la ms T (k + 1))
      · rw [if_pos ⟨hk, e⟩]; exact qs.1 e
      · rw [if_neg fun z => e z.2, qs.2 e, Int.add_zero]
    · rw [if_neg hk, Int.add_zero] at ih
      rw [ih, if_neg fun z => hk z.1, Int.add_zero]
theorem lt_le {ms : List (TkN N)} {T : Int} {a b : Nat} (hab : a ≤ b) (h : lt ms T b) : lt ms T a := by
  obtain ⟨d, rfl⟩ : ∃ d, b = a + d := ⟨b - a, by omega⟩
  clear hab
  induction d with
  | zero => exact h
  | succ d ih => exact ih h.1
theorem la_zero {ms : List (TkN N)} (h : AllOk ms) : ∀ k, la ms 0 k = 0
  | 0 => rfl
  | k + 1 => by
    show qa ms ((k : Int) + 1) (la ms 0 k) = 0
    rw [la_zero h k]
    exact qa_eq h ⟨Int.le_refl _, by rw [lix_zero h]; exact Int.le_refl _, fun p a b => by omega⟩
/-- ranks from 1 to 10 -/
def RanksOk (ms : List (TkN N)) : Prop := ∀ m ∈ ms, 1 ≤ m.rank ∧ m.rank ≤ 10
/-- what holds of a talker's rank -/
structure Run (ms : List (TkN N)) (T : Int) (r : Int) (L q o : Int) : Prop where
  q0 : 0 ≤ q
  o0 : 0 ≤ o
  o1 : o ≤ off ms r q ms.length
  eq : L = lix ms r q ↔ o = off ms r q ms.length
theorem run_of {ms : List (TkN N)} (h : AllOk ms) {T : Int} (hT : 0 ≤ T) (k : Nat) : Run ms T ((k : Int) + 1) (la ms T k) (la ms T (k + 1)) (la ms T k - la ms T (k + 1) - rankLen ms ((k : Int) + 1) (la ms T (k + 1) - 1)) := by
  have s : IsQa ms ((k : Int) + 1) (la ms T k) (la ms T (k + 1)) := qa_spec h _ _
  have a := off_all h ((k : Int) + 1) (la ms T (k + 1))
  have l0 := la_nonneg h hT k
  refine ⟨s.nn, ?_, ?_, ?_⟩
  · have s0 := s.nn
    rcases Int.lt_or_le 0 (la ms T (k + 1)) with z | z
    · have := s.lo (la ms T (k + 1) - 1) (by omega) (by omega)
      unfold lix at this
      omega
    · have e : la ms T (k + 1) = 0 := by omega
      have := rankLen_zero h ((k : Int) + 1) (a := la ms T (k + 1) - 1) (by omega)
      omega
  · have := s.up
    unfold lix at this
    omega
  · unfold lix
    omega
theorem rk_nat {ms : List (TkN N)} (hr : RanksOk ms) {m : TkN N} (hm : m ∈ ms) : ∃ k : Nat, m.rank.toNat = k + 1 ∧ m.rank = (k : Int) + 1 ∧ k < 10 := by
  have := hr m hm
  exact ⟨m.rank.toNat - 1, by omega, by omega, by omega⟩
/-- who speaks at T -/
def IsSpk (ms : List (TkN N)) (T : Int) : Option Nat → Prop
  | none => lt ms T 10
  | some j => ∃ m k, ms[j]? = some m ∧ m.rank = ((k : Nat) : Int) + 1 ∧ lt ms T k ∧ m.sch.has (qOf ms T m) = true ∧ off ms m.rank (qOf ms T m) j ≤ oOf ms T m ∧ oOf ms T m < off ms m.rank (qOf ms T m) j + m.sch.run (qOf ms T m)
theorem exists_spk {ms : List (TkN N)} (h : AllOk ms) {T : Int} (hT : 0 ≤ T) : ∃ b, IsSpk ms T b := by
  have key : ∀ n, lt ms T n ∨ ∃ b, IsSpk ms T b := by
    intro n
    induction n with
    | zero => exact .inl trivial
    | succ n ih =>
      rcases ih with ih | ih
      · by_cases e : la ms T n = lix ms ((n : Int) + 1) (la ms T (n + 1))
        · exact .inl ⟨ih, e⟩
        · have R := run_of h hT n
          have lt1 : la ms T n - la ms T (n + 1) - rankLen ms ((n : Int) + 1) (la ms T (n + 1) - 1) < off ms ((n : Int) + 1) (la ms T (n + 1)) ms.length := by
            have := R.o1
            have := R.eq
            omega
          obtain ⟨j, m, hj, hm, hmr, l0, l1⟩ := off_find _ _ R.o0 _ (Nat.le_refl _) lt1
          have e1 : m.rank.toNat = n + 1 := by omega
          have eq : qOf ms T m = la ms T (n + 1) := by unfold qOf; rw [e1]
          have eo : oOf ms T m = la ms T n - la ms T (n + 1) - rankLen ms ((n : Int) + 1) (la ms T (n + 1) - 1) := by
            unfold oOf lOf; rw [eq, e1, hmr]; rfl
          refine .inr ⟨some j, m, n, hm, hmr, ih, ?_, by rw [hmr, eq, eo]; exact l0, by rw [hmr, eq, eo]; exact l1⟩
          rw [eq]
          by_cases hh : m.sch.has (la ms T (n + 1)) = true
          · exact hh
          · have : m.sch.run (la ms T (n + 1)) = 0 := by unfold Sch.run; rw [if_neg hh]
            omega
      · exact .inr ih
  rcases key 10 with z | z
  · exact ⟨none, z⟩
  · exact z
/-- the least of those that are ready -/
def keyLe (r : Int) (s : Int) (j : Nat) (r' : Int) (s' : Int) (i : Nat) : Prop := r < r' ∨ (r = r' ∧ ((s ≠ 0 ∧ s' = 0) ∨ ((s = 0 ↔ s' = 0) ∧ j ≤ i)))
def IsBest (ms : List (TkN N)) (cs : Nat → TkN N → Cell) : Option Nat → Prop
  | none => ∀ (i : Nat) m, ms[i]? = some m → (cs i m).c ≠ 0
  | some j => ∃ m, ms[j]? = some m ∧ (cs j m).c = 0 ∧ ∀ (i : Nat) m', ms[i]? = some m' → (cs i m').c = 0 → keyLe m.rank (cs j m).s j m'.rank (cs i m').s i
theorem best_unique {ms : List (TkN N)} {cs : Nat → TkN N → Cell} : ∀ {a b : Option Nat}, IsBest ms cs a → IsBest ms cs b → a = b
  | none, none, _, _ => rfl
  | none, some j, h, ⟨m, h1, h2, _⟩ => absurd h2 (h j m h1)
  | some j, none, ⟨m, h1, h2, _⟩, h => absurd h2 (h j m h1)
  | some j, some i, ⟨m, h1, h2, h3⟩, ⟨m', g1, g2, g3⟩ => by
    have a := h3 i m' g1 g2
    have b := g3 j m h1 h2
    unfold keyLe at a b
    have : j = i := by
      rcases a with a | ⟨a1, ⟨a2, a3⟩ | ⟨a2, a3⟩⟩ <;> rcases b with b | ⟨b1, ⟨b2, b3⟩ | ⟨b2, b3⟩⟩ <;> first | omega | (exfalso; omega) | skip
      all_goals first | (exact absurd b3 a2) | (exact absurd a3 b2) | (exact absurd (a2.mpr b3) b2) | (exact absurd (b2.mpr a3) a2) | omega
    rw [this]
/-- what a talker's rank says of its cell -/
theorem cel_run {ms : List (TkN N)} (h : AllOk ms) (hr : RanksOk ms) {T : Int} (hT : 0 ≤ T) {m : TkN N} (hm : m ∈ ms) : Run ms T m.rank (lOf ms T m) (qOf ms T m) (oOf ms T m) := by
  obtain ⟨k, e1, e2, _⟩ := rk_nat hr hm
  have R := run_of h hT k
  unfold oOf lOf qOf
  rw [e1, e2]
  exact R
theorem cel_silent {ms : List (TkN N)} (h : AllOk ms) {T : Int} {j : Nat} {m : TkN N} (hm : ms[j]? = some m) (e : ¬ (m.sch.has (qOf ms T m) = true ∧ oOf ms T m < off ms m.rank (qOf ms T m) j + m.sch.run (qOf ms T m))) : 0 < (cel ms T j m).c := by
  unfold cel cellOf
  rw [if_neg e]
  show 0 < m.sch.ready _ - _
  have a := Sch.cnt_lt (h m (List.mem_of_getElem? hm)) (qOf ms T m) (m.sch.cnt (qOf ms T m))
  rcases Int.lt_or_le (qOf ms T m) (m.sch.ready (m.sch.cnt (qOf ms T m))) with z | z
  · omega
  · have := a.mpr z; omega
/-- those of a rank to whom the run is over are silent -/
theorem cel_over {ms : List (TkN N)} (h : AllOk ms) {T : Int} {j : Nat} {m : TkN N} (hm : ms[j]? = some m) (e : oOf ms T m = off ms m.rank (qOf ms T m) ms.length) :
    ¬ (m.sch.has (qOf ms T m) = true ∧ oOf ms T m < off ms m.rank (qOf ms T m) j + m.sch.run (qOf ms T m)) := fun ⟨_, q⟩ => by
  have a := off_succ hm m.rank (qOf ms T m)
  rw [if_pos rfl] at a
  have hj := (List.getElem?_eq_some_iff.mp hm).1
  have b := off_le h m.rank (qOf ms T m) (show j + 1 ≤ ms.length by omega)
  omega
theorem lt_over {ms : List (TkN N)} (h : AllOk ms) (hr : RanksOk ms) {T : Int} (hT : 0 ≤ T) {m : TkN N} (hm : m ∈ ms) (e : lt ms T m.rank.toNat) : oOf ms T m = off ms m.rank (qOf ms T m) ms.length := by
  have R := cel_run h hr hT hm
  obtain ⟨k, e1, e2, _⟩ := rk_nat hr hm
  rw [e1] at e
  refine R.eq.mp ?_
  have := e.2
  unfold lOf qOf
  rw [e1, e2]
  exact this
theorem spk_best {ms : List (TkN N)} (h : AllOk ms) (hr : RanksOk ms) {T : Int} (hT : 0 ≤ T) : ∀ {b : Option Nat}, IsSpk ms T b → IsBest ms (cel ms T) b
  | none, q => fun i m hm => by
    have mm := List.mem_of_getElem? hm
    obtain ⟨k, e1, e2, e3⟩ := rk_nat hr mm
    have := cel_silent h hm (cel_over h hm (lt_over h hr hT mm (lt_le (by omega) q)))
    omega
  | some j, ⟨m, k, hm, hmr, hl, hh, o0, o1⟩ => by
    have mm := List.mem_of_getElem? hm
    have cj : cel ms T j m = ⟨m.sch.cnt (qOf ms T m) - 1, 0, max 0 (oOf ms T m - off ms m.rank (qOf ms T m) j)⟩ := by
      unfold cel cellOf; rw [if_pos ⟨hh, o1⟩]
    refine ⟨m, hm, by rw [cj], fun i m' hm' hc => ?_⟩
    have mm' := List.mem_of_getElem? hm'
    have hi : m'.sch.has (qOf ms T m') = true ∧ oOf ms T m' < off ms m'.rank (qOf ms T m') i + m'.sch.run (qOf ms T m') := Classical.byContradiction fun z => by
      have := cel_silent h hm' z; omega
    have ci : cel ms T i m' = ⟨m'.sch.cnt (qOf ms T m') - 1, 0, max 0 (oOf ms T m' - off ms m'.rank (qOf ms T m') i)⟩ := by
      unfold cel cellOf; rw [if_pos hi]
    rw [cj, ci]
    unfold keyLe
    dsimp only
    rcases Int.lt_trichotomy m.rank m'.rank with z | z | z
    · exact .inl z
    · refine .inr ⟨z, ?_⟩
      have eq : qOf ms T m' = qOf ms T m := by unfold qOf; rw [z]
      have eo : oOf ms T m' = oOf ms T m := by unfold oOf lOf; rw [eq, z]
      rw [eq, eo, ← z] at hi ⊢
      have sj := off_succ hm m.rank (qOf ms T m)
      rw [if_pos rfl] at sj
      have si := off_succ hm' m.rank (qOf ms T m)
      rw [if_pos z.symm] at si
      rcases Nat.lt_trichotomy j i with y | y | y
      · have := off_le h m.rank (qOf ms T m) (show j + 1 ≤ i by omega)
        omega
      · subst y
        exact .inr ⟨Iff.rfl, Nat.le_refl _⟩
      · have := off_le h m.rank (qOf ms T m) (show i + 1 ≤ j by omega)
        omega
    · exfalso
      obtain ⟨k', f1, f2, _⟩ := rk_nat hr mm'
      have := cel_over h hm' (lt_over h hr hT mm' (lt_le (by omega) hl))
      exact this hi
theorem best_spk {ms : List (TkN N)} (h : AllOk ms) (hr : RanksOk ms) {T : Int} (hT : 0 ≤ T) {b : Option Nat} (q : IsBest ms (cel ms T) b) : IsSpk ms T b := by
  obtain ⟨b', hb⟩ := exists_spk h hT
  rw [best_unique q (spk_best h hr hT hb)]
  exact hb
/-- one tick -/
def rkAt (ms : List (TkN N)) : Option Nat → Int
  | none => 11
  | some j => match ms[j]? with
    | none => 11
    | some m => m.rank
def stepCell (ms : List (TkN N)) (b : Option Nat) (j : Nat) (m : TkN N) (x : Cell) : Cell :=
  if b = some j then (if x.s + 1 = (m.sch.nth x.k).2 then ⟨x.k + 1, (m.sch.nth (x.k + 1)).1, 0⟩ else ⟨x.k, x.c, x.s + 1⟩)
  else if 0 < x.c ∧ m.rank < rkAt ms b then ⟨x.k, x.c - 1, x.s⟩ else x
/-- the tick is left to a rank just if no higher one speaks -/
theorem spk_lt {ms : List (TkN N)} (h : AllOk ms) (hr : RanksOk ms) {T : Int} (hT : 0 ≤ T) : ∀ {b : Option Nat}, IsSpk ms T b → ∀ k : Nat, k ≤ 10 → (lt ms T k ↔ (k : Int) < rkAt ms b)
  | none, q, k, hk => ⟨fun _ => by show (k : Int) < 11; omega, fun _ => lt_le hk q⟩
  | some j, ⟨m, n, hm, hmr, hl, hh, o0, o1⟩, k, hk => by
    have e : rkAt ms (some j) = m.rank := by show (match ms[j]? with | none => 11 | some m => m.rank) = _; rw [hm]
    rw [e, hmr]
    constructor
    · intro q
      rcases Nat.lt_or_ge n k with z | z
      · exfalso
        have mm := List.mem_of_getElem? hm
        exact cel_over h hm (lt_over h hr hT mm (lt_le (by omega) q)) ⟨hh, o1⟩
      · omega
    · intro q
      exact lt_le (by omega) hl
theorem cel_zero {ms : List (TkN N)} (h : AllOk ms) {j : Nat} {m : TkN N} (hm : ms[j]? = some m) : cel ms 0 j m = ⟨0, (m.sch.nth 0).1, 0⟩ := by
  have hq : qOf ms 0 m = 0 := la_zero h _
  have hc : m.sch.cnt 0 = 0 := Sch.cnt_zero (h m (List.mem_of_getElem? hm)) (Int.le_refl _)
  have hh : m.sch.has 0 = false := by unfold Sch.has; rw [hc]; rfl
  unfold cel cellOf
  rw [hq, if_neg (by rw [hh]; simp), hc]
  simp [Sch.ready, Sch.sum]
theorem ready_succ (s : Sch) (n : Nat) : s.ready (n + 1) = s.ready n + (s.nth (n + 1)).1 := rfl
open Classical in
theorem cel_step {ms : List (TkN N)} (h : AllOk ms) (hr : RanksOk ms) {T : Int} (hT : 0 ≤ T) {b : Option Nat} (sp : IsSpk ms T b) {j : Nat} {m : TkN N} (hm : ms[j]? = some m) : stepCell ms b j m (cel ms T j m) = cel ms (T + 1) j m := by
  have mm := List.mem_of_getElem? hm
  have ok := h m mm
  obtain ⟨k, e1, e2, e3⟩ := rk_nat hr mm
  have R := cel_run h hr hT mm
  have lk := spk_lt h hr hT sp k (by omega)
  have lk1 := spk_lt h hr hT sp (k + 1) (by omega)
  have s0 := la_succ h hT k
  have s1 := la_succ h hT (k + 1)
  have q1 : qOf ms (T + 1) m = qOf ms T m + if lt ms T (k + 1) then 1 else 0 := by unfold qOf; rw [e1]; exact s1
  have l1 : lOf ms (T + 1) m = lOf ms T m + if lt ms T k then 1 else 0 := by unfold lOf; rw [e1]; exact s0
  by_cases hk : lt ms T k
  · rw [if_pos hk] at l1
    by_cases hk1 : lt ms T (k + 1)
    · -- a quiet tick of the rank
      rw [if_pos hk1] at q1
      have nb : rkAt ms b > m.rank := by have := lk1.mp hk1; omega
      have nj : b ≠ some j := fun z => by
        rw [z] at nb
        have : rkAt ms (some j) = m.rank := by show (match ms[j]? with | none => 11 | some m => m.rank) = _; rw [hm]
        omega
      have ov := lt_over h hr hT mm (show lt ms T m.rank.toNat by rw [e1]; exact hk1)
      have no := cel_over h hm ov
      have pos := cel_silent h hm no
      have c0 : cel ms T j m = ⟨m.sch.cnt (qOf ms T m), m.sch.ready (m.sch.cnt (qOf ms T m)) - qOf ms T m, 0⟩ := by unfold cel cellOf; rw [if_neg no]
      unfold stepCell
      rw [if_neg nj, if_pos ⟨pos, nb⟩]
      rw [c0] at pos ⊢
      dsimp only at pos ⊢
      have cp := Sch.cnt_pred ok (qOf ms T m + 1)
      rw [Int.add_sub_cancel] at cp
      have o' : oOf ms (T + 1) m = 0 := by
        have := R.eq.mpr ov
        unfold lix at this
        unfold oOf
        rw [l1, q1, Int.add_sub_cancel]
        omega
      unfold cel cellOf
      rw [o', q1]
      have on := off_nonneg h m.rank (qOf ms T m + 1) j
      by_cases hh : m.sch.has (qOf ms T m + 1) = true
      · have rp := Sch.run_pos ok hh
        rw [if_pos ⟨hh, by omega⟩]
        rw [if_pos hh] at cp
        have := (Sch.has_iff.mp hh).2
        rw [cp, Nat.add_sub_cancel] at this ⊢
        rw [this, show max 0 (0 - off ms m.rank (qOf ms T m + 1) j) = 0 by omega, show qOf ms T m + 1 - qOf ms T m - 1 = 0 by omega]
      · rw [if_neg fun z => hh z.1]
        rw [if_neg hh, Nat.add_zero] at cp
        rw [cp, show m.sch.ready (m.sch.cnt (qOf ms T m)) - qOf ms T m - 1 = m.sch.ready (m.sch.cnt (qOf ms T m)) - (qOf ms T m + 1) by omega]
    · -- the rank speaks
      rw [if_neg hk1, Int.add_zero] at q1
      have rb : rkAt ms b = m.rank := by have := lk.mp hk; have := mt lk1.mpr hk1; omega
      have o' : oOf ms (T + 1) m = oOf ms T m + 1 := by
        unfold oOf
        rw [l1, q1]; omega
      cases b with
      | none => have : rkAt ms none = 11 := rfl; have := hr m mm; omega
      | some i =>
        obtain ⟨m', n, hm', hmr', hl', hh', o0, o1⟩ := sp
        have erk : rkAt ms (some i) = m'.rank := by show (match ms[i]? with | none => 11 | some m => m.rank) = _; rw [hm']
        have er : m'.rank = m.rank := by rw [← erk]; exact rb
        have eq : qOf ms T m' = qOf ms T m := by unfold qOf; rw [er]
        have eo : oOf ms T m' = oOf ms T m := by unfold oOf lOf; rw [eq, er]
        rw [eq] at hh'
        rw [eq, eo, er] at o0 o1
        unfold stepCell cel cellOf
        rw [q1, o']
        by_cases hij : i = j
        · subst hij
          rw [hm] at hm'
          cases hm'
          rw [if_pos (show some i = some i from rfl), if_pos (show m.sch.has (qOf ms T m) = true ∧ oOf ms T m < off ms m.rank (qOf ms T m) i + m.sch.run (qOf ms T m) from ⟨hh', o1⟩)]
          dsimp only
          have rl : m.sch.run (qOf ms T m) = (m.sch.nth (m.sch.cnt (qOf ms T m) - 1)).2 := by unfold Sch.run; rw [if_pos hh']
          rw [← rl]
          have hc := (Sch.has_iff.mp hh')
          by_cases last : oOf ms T m + 1 < off ms m.rank (qOf ms T m) i + m.sch.run (qOf ms T m)
          · rw [if_neg (by omega), if_pos ⟨hh', last⟩, show max 0 (oOf ms T m - off ms m.rank (qOf ms T m) i) + 1 = max 0 (oOf ms T m + 1 - off ms m.rank (qOf ms T m) i) by omega]
          · rw [if_pos (by omega), if_neg fun z => last z.2]
            obtain ⟨c, hcc⟩ : ∃ c, m.sch.cnt (qOf ms T m) = c + 1 := ⟨m.sch.cnt (qOf ms T m) - 1, by omega⟩
            rw [hcc, Nat.add_sub_cancel] at hc ⊢
            rw [ready_succ, hc.2, show qOf ms T m + (m.sch.nth (c + 1)).1 - qOf ms T m = (m.sch.nth (c + 1)).1 by omega]
        · rw [if_neg (fun z => hij (Option.some.inj z)), if_neg (fun z => by omega)]
          by_cases hc : m.sch.has (qOf ms T m) = true
          · have si := off_succ hm' m.rank (qOf ms T m)
            rw [if_pos er] at si
            have sj := off_succ hm m.rank (qOf ms T m)
            rw [if_pos rfl] at sj
            have rj := Sch.run_pos ok hc
            rcases Nat.lt_or_ge i j with z | z
            · have := off_le h m.rank (qOf ms T m) (show i + 1 ≤ j by omega)
              rw [if_pos ⟨hc, by omega⟩, if_pos ⟨hc, by omega⟩]
              rw [show max 0 (oOf ms T m - off ms m.rank (qOf ms T m) j) = max 0 (oOf ms T m + 1 - off ms m.rank (qOf ms T m) j) by omega]
            · have := off_le h m.rank (qOf ms T m) (show j + 1 ≤ i by omega)
              rw [if_neg (fun z => by omega), if_neg (fun z => by omega)]
          · rw [if_neg (fun z => hc z.1), if_neg (fun z => hc z.1)]
  · -- a higher rank speaks
    have hk1 : ¬ lt ms T (k + 1) := fun z => hk z.1
    rw [if_neg hk, Int.add_zero] at l1
    rw [if_neg hk1, Int.add_zero] at q1
    have rb : ¬ m.rank < rkAt ms b := fun z => hk (lk.mpr (by omega))
    have nj : b ≠ some j := fun z => by
      have : rkAt ms (some j) = m.rank := by show (match ms[j]? with | none => 11 | some m => m.rank) = _; rw [hm]
      rw [← z] at this
      exact hk (lk.mpr (by omega))
    unfold stepCell
    rw [if_neg nj, if_neg fun z => rb z.2]
    unfold cel oOf
    rw [l1, q1]
end HR
/-! defs, methods, classes of the text; promises -/
namespace HR
open PySem PyProof.Rows L2
/-- a def of the module, all of whose parameters are given -/
structure DefE (K : PySem.W.Frag) (mg : Str → Option Value) (x : Str) (st : Stmt) (ps : List Str) : Prop where
  ex : ∃ f fd, C8.Def K mg x st f fd ∧ Binds K fd ps []
/-- .. its last parameters may lack -/
structure DefD (K : PySem.W.Frag) (mg : Str → Option Value) (x : Str) (st : Stmt) (ps : List Str) (dvs : List V) : Prop where
  ex : ∃ f fd ds, C8.Def K mg x st f fd ∧ Binds K fd ps [] ∧ Binds K fd ps ds ∧ Vals dvs ds
structure MethE (K : PySem.W.Frag) (C : Addr) (m qual : Str) (st : Stmt) (ps : List Str) : Prop where
  ex : ∃ f fd, Meth K C m f ∧ C8.Fun K m qual st f fd ∧ Binds K fd ps []
structure MakE (K : PySem.W.Frag) (mg : Str → Option Value) (C : Addr) (x qual : Str) (st : Stmt) (ps : List Str) : Prop where
  ex : ∃ f fd, Mk K C f ∧ C8.Fun K "__init__" qual st f fd ∧ Binds K fd ps []
  mgC : mg x = some (.ref C)

/-- a promise: the arguments by what they stand for, what is asked and given -/
def Spec {α : Type} (args : α → List V) (post : α → Hp → VK → Prop) : Sp := fun vs H Q _ => ∃ x, vs = args x ∧ post x H Q
theorem Spec.len {α : Type} {args : α → List V} {post : α → Hp → VK → Prop} {n : Nat} (h : ∀ x, (args x).length = n) : ∀ vs H Q E, Spec args post vs H Q E → vs.length = n := fun vs H Q E q => by
  obtain ⟨x, e, _⟩ := q
  rw [e]; exact h x
section
variable {P : Program} {w : World} {K : PySem.W.Frag} {mg : Str → Option Value} {base : Heap} {C : Addr} {x m qual : Str} {st : Stmt} {N ps : List Str} {k : Nat} {α : Type} {args : α → List V} {post : α → Hp → VK → Prop}
/-- a def's promise by its body -/
theorem cal_of (D : DefE K mg x st ps) (S : FnScope N ps (C8.fnScope st)) (hl : ∀ x, (args x).length = ps.length)
    (h : ∀ (f : Addr) (cdv : Value) (A : Around) (outer : List Env) (s : Shared) (H : Hp) (a : α) (Q : VK) (E : XK), Room k (A.deeper (envOfC x (C8.fnScope st) s.heap.objs.size f cdv)) → post a H Q →
      ∃ t, PSs (cxOf C8.CX0 P w K mg base N x (C8.fnScope st) f cdv A outer s H E).nox (C8.fnBody st) t ∧ t { nx := fun _ H' => Q .non H', rt := Q } (start N (args a)) H) : C8.Cal P w K mg base (k + 1) x (Spec args post) [] := by
  obtain ⟨f, fd, F, b⟩ := D.ex
  refine C8.cal0 F b .nil S (Spec.len hl) fun cdv A outer s H vs Q E hr q => ?_
  obtain ⟨a, rfl, q⟩ := q
  exact h f cdv A outer s H a Q E hr q
theorem cal_ofD {dvs : List V} (D : DefD K mg x st ps dvs) (S : FnScope N ps (C8.fnScope st)) (hl : ∀ x, (args x).length = ps.length)
    (h : ∀ (f : Addr) (cdv : Value) (A : Around) (outer : List Env) (s : Shared) (H : Hp) (a : α) (Q : VK) (E : XK), Room k (A.deeper (envOfC x (C8.fnScope st) s.heap.objs.size f cdv)) → post a H Q →
      ∃ t, PSs (cxOf C8.CX0 P w K mg base N x (C8.fnScope st) f cdv A outer s H E).nox (C8.fnBody st) t ∧ t { nx := fun _ H' => Q .non H', rt := Q } (start N (args a)) H) :
    C8.Cal P w K mg base (k + 1) x (Spec args post) [] ∧ C8.Cal P w K mg base (k + 1) x (Spec args post) dvs := by
  obtain ⟨f, fd, ds, F, b0, b, d⟩ := D.ex
  have body : ∀ (cdv : Value) (A : Around) (outer : List Env) (s : Shared) (H : Hp) (vs : List V) (Q : VK) (E : XK), Room k (A.deeper (envOfC x (C8.fnScope st) s.heap.objs.size f cdv)) → Spec args post vs H Q E →
      ∃ t, PSs (cxOf C8.CX0 P w K mg base N x (C8.fnScope st) f cdv A outer s H E).nox (C8.fnBody st) t ∧ t { nx := fun _ H' => Q .non H', rt := Q } (start N vs) H := fun cdv A outer s H vs Q E hr q => by
    obtain ⟨a, rfl, q⟩ := q
    exact h f cdv A outer s H a Q E hr q
  exact ⟨C8.cal0 F b0 .nil S (Spec.len hl) body, C8.cal0 F b d S (Spec.len hl) body⟩
theorem met_of (c : Cls K C) (D : MethE K C m qual st ps) (S : FnScope N ps (C8.fnScope st)) (hl : ∀ x, (args x).length = ps.length)
    (h : ∀ (f : Addr) (cdv : Value) (A : Around) (outer : List Env) (s : Shared) (H : Hp) (a : α) (Q : VK) (E : XK), Room k (A.deeper (envOfC qual (C8.fnScope st) s.heap.objs.size f cdv)) → post a H Q →
      ∃ t, PSs (cxOf C8.CX0 P w K mg base N qual (C8.fnScope st) f cdv A outer s H E).nox (C8.fnBody st) t ∧ t { nx := fun _ H' => Q .non H', rt := Q } (start N (args a)) H) : C8.Met P w K mg base (k + 1) C m (Spec args post) [] := by
  obtain ⟨f, fd, me, F, b⟩ := D.ex
  refine C8.met0 c me F b S (Spec.len hl) fun cdv A outer s H vs Q E hr q => ?_
  obtain ⟨a, rfl, q⟩ := q
  exact h f cdv A outer s H a Q E hr q
theorem mak_of (D : MakE K mg C x qual st ps) (S : FnScope N ps (C8.fnScope st)) (hl : ∀ x, (args x).length = ps.length)
    (h : ∀ (f : Addr) (cdv : Value) (A : Around) (outer : List Env) (s : Shared) (H : Hp) (a : α) (Q : VK) (E : XK), Room k (A.deeper (envOfC qual (C8.fnScope st) s.heap.objs.size f cdv)) → post a H Q →
      ∃ t, PSs (cxOf C8.CX0 P w K mg base N qual (C8.fnScope st) f cdv A outer s H E).nox (C8.fnBody st) t ∧ t { nx := fun _ H' => Q .non H', rt := Q } (start N (args a)) H) : C8.Mak P w K mg base (k + 1) x C (Spec args post) [] := by
  obtain ⟨f, fd, me, F, b⟩ := D.ex
  refine C8.mak0 me D.mgC F b .nil S (Spec.len hl) fun cdv A outer s H vs Q E hr q => ?_
  obtain ⟨a, rfl, q⟩ := q
  exact h f cdv A outer s H a Q E hr q
end
/-! ### from the head's facts -/
section
variable {K : PySem.W.Frag} {mg : Str → Option Value} {h : Heap} {x m qual : Str} {st : Stmt} {ps : List Str} {f C : Addr} {od an : Option Addr} {sl : Array (Option Value)} {oc kV dc pm cd ct : Value}
theorem defE_mk (X : K.In h) (G : h.Ns mainGlobals mg)
    (hb : ∀ (kV doc pm : Value) (an : Option Addr) (cdv ct : Value) (us : List Value), us.length = ps.length → bindArgs (PySem.W.fnOf x x (C8.fnArgs st) (C8.fnBody st) (C8.fnScope st) .none kV doc pm an cdv ct) ⟨us, []⟩ = pure (ps.zip us))
    (a : PySem.W.nsIn K mainGlobals x = some (some (.ref f))) (l : K.lookup f = some ⟨oc, od, .func (PySem.W.fnOf x x (C8.fnArgs st) (C8.fnBody st) (C8.fnScope st) .none kV dc pm an cd ct), sl⟩)
    (c : PySem.W.codeIn K cd x = true) (k : PySem.W.keepIn K (.ref f) = true) : DefE K mg x st ps :=
  have F : C8.Fun K x x st f _ := ⟨⟨oc, od, .none, kV, dc, pm, an, cd, ct, sl, rfl, l, c⟩⟩
  ⟨f, _, ⟨F, PySem.W.mg_of X G a, k⟩, F.binds rfl hb⟩
theorem methE_mk (hb : ∀ (kV doc pm : Value) (an : Option Addr) (cdv ct : Value) (us : List Value), us.length = ps.length → bindArgs (PySem.W.fnOf m qual (C8.fnArgs st) (C8.fnBody st) (C8.fnScope st) .none kV doc pm an cdv ct) ⟨us, []⟩ = pure (ps.zip us))
    (a : PySem.W.findIn K (.ref C) m = some (some (.ref f))) (i : PySem.W.isFn K (.ref f) = true) (l : K.lookup f = some ⟨oc, od, .func (PySem.W.fnOf m qual (C8.fnArgs st) (C8.fnBody st) (C8.fnScope st) .none kV dc pm an cd ct), sl⟩)
    (c : PySem.W.codeIn K cd qual = true) (k : PySem.W.keepIn K (.ref f) = true) : MethE K C m qual st ps :=
  have F : C8.Fun K m qual st f _ := ⟨⟨oc, od, .none, kV, dc, pm, an, cd, ct, sl, rfl, l, c⟩⟩
  ⟨f, _, ⟨a, i, k⟩, F, F.binds rfl hb⟩
theorem makE_mk (X : K.In h) (G : h.Ns mainGlobals mg) (hb : ∀ (kV doc pm : Value) (an : Option Addr) (cdv ct : Value) (us : List Value), us.length = ps.length → bindArgs (PySem.W.fnOf "__init__" qual (C8.fnArgs st) (C8.fnBody st) (C8.fnScope st) .none kV doc pm an cdv ct) ⟨us, []⟩ = pure (ps.zip us))
    (n : PySem.W.nsIn K mainGlobals x = some (some (.ref C))) (mk : PySem.W.makesIn K C = true) (kc : PySem.W.keepIn K (.ref C) = true)
    (a : PySem.W.findIn K (.ref C) "__init__" = some (some (.ref f))) (i : PySem.W.isFn K (.ref f) = true) (l : K.lookup f = some ⟨oc, od, .func (PySem.W.fnOf "__init__" qual (C8.fnArgs st) (C8.fnBody st) (C8.fnScope st) .none kV dc pm an cd ct), sl⟩)
    (c : PySem.W.codeIn K cd qual = true) : MakE K mg C x qual st ps :=
  have F : C8.Fun K "__init__" qual st f _ := ⟨⟨oc, od, .none, kV, dc, pm, an, cd, ct, sl, rfl, l, c⟩⟩
  ⟨⟨f, _, ⟨mk, a, i, kc⟩, F, F.binds rfl hb⟩, PySem.W.mg_of X G n⟩
end
end HR
/-! types of values -/
namespace HR
open PySem PyProof.Rows L2
variable {K : PySem.W.Frag} {H H' : Hp}
theorem TyX.ex {x : V} {t : Value} (e : Ex H H') (h : TyX K H x t) : TyX K H' x t := by
  cases h with
  | base b =>
    refine .base ?_
    cases b with
    | non => exact .non
    | bl y => exact .bl y
    | int i => exact .int i
    | str y => exact .str y
    | flt y => exact .flt y
    | lst ea => exact .lst (e _ _ ea)
    | frz ea => exact .frz (e _ _ ea)
    | tup ea => exact .tup (e _ _ ea)
    | dK ea => exact .dK (e _ _ ea)
    | dT ea => exact .dT (e _ _ ea)
    | ins ea cl ha hn htk hm => exact .ins (e _ _ ea) cl ha hn htk hm
  | byt y => exact .byt y
  | set ea => exact .set (e _ _ ea)
  | kList ea c => exact .kList ea c
  | kTuple ea c => exact .kTuple ea c
  | kDict ea c => exact .kDict ea c
  | fTuple ea => exact .fTuple (e _ _ ea)
  | fDict ea => exact .fDict (e _ _ ea)
theorem ty_list {a : Addr} {xs : List V} (h : SqL K H a xs) : TyX K H (.ref a) (.type "list") := by
  rcases h with (h | ⟨o, h⟩) | ⟨o, its, n, h, c, d⟩
  · exact .base (.lst h)
  · exact .base (.frz h)
  · exact .kList h c
theorem ty_tup {a : Addr} {xs : List V} (h : SqT K H a xs) : TyX K H (.ref a) (.type "tuple") := by
  rcases h with (h | ⟨o, h⟩) | ⟨o, its, n, h, c, d⟩
  · exact .base (.tup h)
  · exact .fTuple h
  · exact .kTuple h c
theorem kit_seq_list : PySem.W.kitAny K (.type "list") [.type "list", .type "tuple"] = some true :=
  kitAny_cons (b := true) (kit_ty (by decide +kernel)) (fun q => nomatch q) fun _ => rfl
theorem kit_seq_tup : PySem.W.kitAny K (.type "tuple") [.type "list", .type "tuple"] = some true :=
  kitAny_cons (b := false) (kit_ty (by decide +kernel)) (fun _ => kitAny_cons (b := true) (kit_ty (by decide +kernel)) (fun q => nomatch q) fun _ => rfl) fun q => nomatch q
theorem Sq.ty {a : Addr} {xs : List V} (h : Sq K H a xs) : ∃ t, TyX K H (.ref a) t ∧ PySem.W.kitAny K t [.type "list", .type "tuple"] = some true := by
  rcases h with h | h
  · exact ⟨_, ty_list h, kit_seq_list⟩
  · exact ⟨_, ty_tup h, kit_seq_tup⟩
end HR
/-! comprehensions over any walk, plain values -/
namespace HR
open PySem L2
section
variable {te ta tb : TE} {t : TA} {σ : St} {H : Hp} {Q : VK} {D : Ends} {g : TG}
theorem cb1 {r : List V → Hp → VK → Prop} (h : te σ H fun x H1 => r [x] H1 Q) : tCB r (tCons te tNil) σ H Q := h
theorem cb2 {r : List V → Hp → VK → Prop} (h : te σ H fun x H1 => ta σ H1 fun y H2 => r [x, y] H2 Q) : tCB r (tCons te (tCons ta tNil)) σ H Q := h
theorem ret1 (h : te σ H D.rt) : tRet te D σ H := h
theorem asg1 (h : te σ H fun x H1 => g x σ H1 D.nx) : tAsg te g D σ H := h
theorem seq1 {t u : TS} (h : t { D with nx := u D } σ H) : tSeq t u D σ H := h
theorem fld1 {K : PySem.W.Frag} {f : Str} (h : te σ H fun y H1 => ta σ H1 fun x H2 => ∃ a C dx fs, x = .ref a ∧ H2 a = some (.ins C dx fs) ∧ Cls K C ∧ NoAttr K C f ∧ fs.length < 1000 ∧ D.nx σ (upd H2 a (.ins C dx (putF f y fs)))) : sFld K ta te f D σ H := h
theorem next1 (h : D.nx σ H) : tNext D σ H := h
theorem op1 {r : R2} (h : ta σ H fun x H1 => tb σ H1 fun y H2 => r x y H2 Q) : tOp r ta tb σ H Q := h
theorem call1 {sp : Sp} {dvs : List V} {E : XK} (h : te σ H fun x H1 => t σ H1 fun xs H2 => sp ((x :: xs) ++ dvs) H2 Q E) : tCall sp dvs E (tCons te t) σ H Q := h
end
theorem lcW {α : Type} {J : It} {n : Nat} {G : Hp → Prop} {Y : Nat → Hp → V → Hp → Prop} (w : Walk J n G Y) {te : TE} {g : TG} {tt : TT} {vs : List Nat} {σ : St} {H1 : Hp} {Q : VK} {as : List α}
    (p : α → Bool) (f : α → V) (hn : as.length = n) (hz : n < 16000000) (hG : ∀ H', Ex H1 H' → G H')
    (turn : ∀ (i : Nat) x b H' H'', Ex H1 H' → as[i]? = some b → Y i H' x H'' → ∀ (C : VK) (Cn : Hp → Prop), (p b = true → ∀ H4, Ex H' H4 → C (f b) H4) → (p b = false → ∀ H3, Ex H' H3 → Cn H3) →
      g x (wipe σ vs) H'' fun σ2 H2 => wipe σ2 vs = wipe σ vs ∧ tt σ2 H2 fun c H3 => if c = true then te σ2 H3 C else Cn H3)
    (k : ∀ D H', H1 D = none → Ex H1 H' → H' D = some (.lst ((as.filter p).map f)) → Q (.ref D) H') : LcGoal J g tt te vs σ H1 Q := by
  intro D hD
  refine lc_it w (fun i H' => Ex H1 H' ∧ H' D = some (.lst (((as.take i).filter p).map f))) ⟨Ex.new hD, upd_same⟩ (fun i H' _ h => hG H' h.1) ?_ ?_
  · rintro i x H' H'' hi ⟨e, hd⟩ y
    have hb : as[i]? = some (as[i]'(by omega)) := List.getElem?_eq_getElem (by omega)
    generalize as[i]'(by omega) = b at hb
    refine turn i x b H' H'' e hb y _ _ (fun hp1 H4 e4 => ⟨_, e4 D _ hd, ?_, (e.trans e4).mut hD, ?_⟩) fun hp0 H3 e3 => ⟨e.trans e3, ?_⟩
    · have h2 := List.length_filter_le p (as.take i)
      rw [List.length_take] at h2
      rw [List.length_map]
      unfold sizeLine
      omega
    · rw [upd_same, take_snoc hb, List.filter_append, List.filter_cons, if_pos hp1, List.map_append]
      rfl
    · rw [e3 D _ hd, take_snoc hb, List.filter_append, List.filter_cons, if_neg (by rw [hp0]; decide)]
      show _ = some (HO.lst (List.map f (_ ++ [])))
      rw [List.append_nil]
  · rintro H' ⟨e, hd⟩
    rw [← hn, List.take_length] at hd
    exact k D H' hD e hd
theorem filter_true {α : Type} (l : List α) : l.filter (fun _ => true) = l := by
  induction l with
  | nil => rfl
  | cons a r ih => rw [List.filter_cons, if_pos rfl, ih]
/-- the signs of a text -/
theorem lcStr {te tl : TE} {g : TG} {tt : TT} {vs : List Nat} {σ : St} {H H1 : Hp} {Q : VK} {z : Str} (f : Nat → V) (hl : ∀ Q' : VK, Q' (.str z) H1 → tl σ H Q') (hz : z.length < 16000000)
    (turn : ∀ c ∈ z.cps.toList, ∀ H', Ex H1 H' → ∀ (C : VK) (Cn : Hp → Prop), (∀ H4, Ex H' H4 → C (f c) H4) →
      g (.str ⟨#[c]⟩) (wipe σ vs) H' fun σ2 H2 => wipe σ2 vs = wipe σ vs ∧ tt σ2 H2 fun c H3 => if c = true then te σ2 H3 C else Cn H3)
    (k : ∀ D H', H1 D = none → Ex H1 H' → H' D = some (.lst (z.cps.toList.map f)) → Q (.ref D) H') : tLc (iStr tl) g tt te vs σ H Q := by
  refine hl _ ⟨z, rfl, ?_⟩
  show LcGoal (Its z) g tt te vs σ H1 Q
  refine lcW (as := z.cps.toList) (walk_str (z := z)) (fun _ => true) f (by simp) hz (fun _ _ => trivial) ?_ ?_
  · rintro i x b H' H'' e hb ⟨rfl, c, hc, rfl⟩ C Cn h1 h2
    have e1 : z.cps.toList[i]? = some c := by rw [Array.getElem?_toList]; exact hc
    rw [hb] at e1
    cases e1
    exact turn b (List.mem_of_getElem? hb) _ e C Cn fun H4 e4 => h1 rfl H4 e4
  · intro D H' hD e hd
    rw [filter_true] at hd
    exact k D H' hD e hd
end HR
/-! len(set(texts)), the texts all different (the library has it for at most one text) -/
namespace HR
open PySem PyProof.Rows
theorem strs_ix : ∀ {vs : List Value} {xs : List Str}, StrsAre vs xs → ∀ (i : Nat) (v : Value), vs[i]? = some v → ∃ t z, xs[i]? = some z ∧ v = .str z t
  | _, _, .nil, i, v, h => by simp at h
  | _, _, .cons n t hr, 0, v, h => by
    simp only [List.getElem?_cons_zero, Option.some.injEq] at h
    exact ⟨t, n, rfl, h.symm⟩
  | _, _, .cons n t hr, i + 1, v, h => by
    simp only [List.getElem?_cons_succ] at h ⊢
    exact strs_ix hr i v h
section
variable {prog : Program} {w : World} {A : Around} {R : Result → Shared → Prop} {I : Addr} {fp wr : List Addr} {G : Array GenState → Array GenState → Prop} {n : Nat} {P : Nat → Value → Prop} {Z : Nat → Shared → Prop}
theorem set_more {h : Heap} {S : Addr} {xs : List Str} {i : Nat} {z : Str} (nd : xs.Nodup) (hz : xs[i]? = some z)
    (h2 : h.SetOf (PySem.strKind prog w) S (fun k => (xs.take i).any (· == k) || decide (k = z)) (if (xs.take i).any (· == z) then i else i + 1)) :
    h.SetOf (PySem.strKind prog w) S (fun k => (xs.take (i + 1)).any (· == k)) (i + 1) := by
  refine SetOf_congr h2 (fun k => ?_) ?_
  · rw [take_snoc hz, List.any_append]
    congr 1
    by_cases e : k = z
    · subst e; simp
    · have : (z == k) = false := by simpa [beq_iff_eq] using fun q : z = k => e q.symm
      simp [this, e]
  · rw [if_neg]
    intro q
    obtain ⟨y, hy, e⟩ := List.any_eq_true.mp q
    obtain ⟨j, hj⟩ := List.getElem?_of_mem hy
    have ey : y = z := by simpa using e
    subst ey
    have hlt := (List.getElem?_eq_some_iff.mp hj).1
    rw [List.length_take] at hlt
    rw [List.getElem?_take_of_lt (by omega)] at hj
    have := L2.nd_ix nd hj hz
    omega
theorem strs_loop (W : WalksS prog w A.in1 I fp wr G n P Z) (S : Addr) (hSf : S ∉ fp) (xs : List Str) (hn : n + 1 < scanBound) (nd : xs.Nodup) (hval : ∀ i v, P i v → ∃ t z, xs[i]? = some z ∧ v = .str z t) :
    ∀ (k i : Nat) (s : Shared), n - i = k → i ≤ n → Z i s → s.heap.SetOf (PySem.strKind prog w) S (fun k => (xs.take i).any (· == k)) i →
      (∀ s', Moved (S :: wr) G s s' → s'.heap.SetOf (PySem.strKind prog w) S (fun k => (xs.take n).any (· == k)) n → R (.ok (.ret .none)) s') →
      codeAny (model prog w) A (.builtin "set.update.loop" ⟨[.ref S, .ref I], []⟩) R s := by
  have hSw : S ∉ wr := fun h => hSf (W.sub _ h)
  have up : ∀ b ∈ wr, b ∈ S :: wr := fun b hb => List.mem_cons_of_mem _ hb
  have go : ∀ {s s' : Shared} {T : Str → Bool} {m : Nat}, Moved wr G s s' → s.heap.SetOf (PySem.strKind prog w) S T m → s'.heap.SetOf (PySem.strKind prog w) S T m := fun {s s' T m} hm ⟨o, es, ep, t, ho, r⟩ =>
    ⟨o, es, ep, t, hm.heap S _ hSw ho, r⟩
  intro k
  induction k with
  | zero =>
    intro i s hk hi hst hS hR
    cases (show i = n by omega)
    refine codeAny_builtin PyProof.Rows.F.entry_set_update_loop ?_
    rw [Around.under_plainId PyProof.Rows.F.plain_set_update_loop _]
    show wpAny _ A.in1 (pyNext (.ref I) >>= _) _ _ s
    exact wpAny_bind (W.done s _ _ hst fun s' hm => wpAny_pure (hR s' (hm.mono up) (go hm hS)))
  | succ k ih =>
    intro i s hk hi hst hS hR
    have hlt : i < n := by omega
    refine codeAny_builtin PyProof.Rows.F.entry_set_update_loop ?_
    rw [Around.under_plainId PyProof.Rows.F.plain_set_update_loop _]
    show wpAny _ A.in1 (pyNext (.ref I) >>= _) _ _ s
    refine wpAny_bind (W.item i s _ _ hlt hst fun v s' hP hst' hm => ?_)
    obtain ⟨t, z, hz, rfl⟩ := hval i v hP
    show wpAny _ A.in1 (holding [Value.str z t] (setAdd S (.str z t)) >>= _) _ _ s'
    refine wpAny_bind (wpAny_holding ?_)
    unfold setAdd
    refine wpAny_holding (wpAny_bind ((PySem.strKind prog w).pyHash (k := z) (strKind_is _ _ _ _) ?_))
    refine wpAny_setAddHashed_of (knd := PySem.strKind prog w) (s := { s' with toks := s'.toks + 1 }) (strKind_is _ _ _ _) rfl (show s'.heap.SetOf (PySem.strKind prog w) S _ i from go hm hS) (by omega) fun h' hsb hS2 => ?_
    have hne : ∀ b, b ≠ S → ∀ o, s'.heap.get? b = some o → h'.get? b = some o := fun b hb o e => by rw [hsb.2 b hb]; exact e
    refine wpAny_pure ⟨plainId_quiet PyProof.Rows.F.plain_set_update_loop _, ih (i + 1) _ (by omega) hlt (W.frame _ s' _ _ hst' (Nat.le_succ _) fun b hb o e => hne b (fun q => hSf (q ▸ hb)) o e) (set_more nd hz hS2) fun s'' hm'' hS'' => ?_⟩
    exact hR s'' (Moved.trans W.gtrans ((hm.mono up).then_heap (Nat.le_succ _) fun b o hb e => hne b (fun q => hb (by rw [q]; exact List.mem_cons_self)) o e) hm'') hS''
end
section
variable {prog : Program} {w : World} {A : Around} {E : Value → Shared → Prop} {s : Shared}
set_option maxHeartbeats 3200000 in
theorem set_of_strs {l : Addr} {items : Array Value} {xs : List Str} {Q : Value → Shared → Prop} (hh : A.handled = none) (hl : s.heap.IsList l items) (hi : StrsAre items.toList xs) (nd : xs.Nodup) (hn : items.size + 1 < scanBound)
    (h : ∀ (h' : Heap) (tk : Nat), h'.SetOf (PySem.strKind prog w) s.heap.objs.size (fun k => (xs.take items.size).any (· == k)) items.size →
      (∀ b o, b < s.heap.objs.size → s.heap.get? b = some o → h'.get? b = some o) → Q (.ref s.heap.objs.size) { s with heap := h', toks := tk }) : wpAny (model prog w) A (call (.type "set") [.ref l]) Q E s := by
  obtain ⟨c, tl, hmro⟩ := PySem.F.called_set.mro
  have hmade := PySem.F.called_set.made
  have hsub := PySem.F.called_set.sub
  refine wpAny_call (codeAny_of_tree ?_)
  show wpAny _ _ (callAny (.type "set") _) _ _ _
  refine wpAny_pure ⟨Code.quiet_builtin _ (by decide +kernel), codeAny_builtin PySem.F.entry_type_call ?_⟩
  rw [Around.under_plain (weight_type_call_type "set" [.ref l] []) rfl]
  have h1 := PySem.F.called_set.notType
  have h2 := PySem.F.called_set.canCreate
  have hct := PySem.F.typeCall_set_1 (.ref l)
  repeat (any_goals (first | assumption | wp_step))
  refine codeAny_mono (code_set_new_1 (.ref l) (E := E) (Q₁ := fun obj s₁ => ∃ led : Bool, obj = .ref s.heap.objs.size ∧ s₁ = { s with heap := s.heap.push { cls := .type "set", dict := none, data := .set #[] 0 (.fresh 0 0 led) } }) fun led => ⟨led, rfl, rfl⟩) fun r s₁ hr => ?_
  cases r with
  | error e => exact hr
  | ok fl =>
    cases fl with
    | ret obj =>
      obtain ⟨led, rfl, rfl⟩ := hr
      have hS : (s.heap.push { cls := .type "set", dict := none, data := .set #[] 0 (.fresh 0 0 led) }).get? s.heap.objs.size = some { cls := .type "set", dict := none, data := .set #[] 0 (.fresh 0 0 led) } := Heap.get?_push_size _ rfl
      have hT : Shared.TypeIs { s with heap := s.heap.push { cls := .type "set", dict := none, data := .set #[] 0 (.fresh 0 0 led) } } (.ref s.heap.objs.size) "set" := ⟨_, hS, rfl⟩
      have hli := PySem.F.called_set.init.lookup
      have hbi := PySem.F.called_set.init.bind (.ref s.heap.objs.size)
      repeat (any_goals (first | assumption | wp_step))
      refine codeAny_mono (codeAny_call_builtin (R := wants (fun r s₂ => r = .none ∧ ∃ h' tk, s₂ = { s with heap := h', toks := tk } ∧ h'.SetOf (PySem.strKind prog w) s.heap.objs.size (fun k => (xs.take items.size).any (· == k)) items.size ∧
          (∀ b o, b < s.heap.objs.size → s.heap.get? b = some o → h'.get? b = some o)) E) PySem.F.called_set.init.plain PySem.F.entry_set_init (check_set_init_1 hT ?_)) fun r₂ s₂ hr₂ => ?_
      · obtain ⟨ol, hol, hcl, nl, hdl⟩ := hl
        obtain ⟨ocls, odict, odata, oslots⟩ := ol
        simp only at hcl hdl
        subst hcl; subst hdl
        have hol' : (s.heap.push { cls := .type "set", dict := none, data := .set #[] 0 (.fresh 0 0 led) }).get? l = some { cls := .type "list", dict := odict, data := .seq items nl, slots := oslots } := Heap.get?_push_of_some _ hol
        have hsls := PySem.F.sub_list_set
        have hslf := PySem.F.sub_list_frozenset
        have hne : (Value.type "list" == Value.type "dict") = false := by decide
        have hl1 : (s.heap.push { cls := .type "set", dict := none, data := .set #[] 0 (.fresh 0 0 led) }).IsList l items := ⟨_, hol', rfl, nl, rfl⟩
        unfold Builtin.«set.__init__» noKeywords Builtin.Frozenset.updateFrom
        generalize hPI : pyIter = PI
        wp_walk
        subst hPI
        refine wpAny_pyIter_list hl1 (wpAny_bind (wpAny_runValue ?_))
        have hlS : l < s.heap.objs.size := Heap.lt_size hol
        have hh3 : A.in1.in1.in1.handled = none := by simp [hh]
        generalize hob : ({ cls := .type "set", dict := none, data := .set #[] 0 (.fresh 0 0 led) } : Obj) = ob at *
        have sz : (s.heap.push ob).objs.size = s.heap.objs.size + 1 := Heap.size_push _ _
        have hneI : l ≠ (s.heap.push ob).objs.size := by rw [sz]; exact Nat.ne_of_lt (Nat.lt_succ_of_lt hlS)
        have hSf : s.heap.objs.size ∉ [(s.heap.push ob).objs.size, l] := by
          rw [sz]
          simp only [List.mem_cons, List.not_mem_nil, or_false, not_or]
          exact ⟨Nat.ne_of_lt (Nat.lt_succ_self _), Nat.ne_of_gt hlS⟩
        refine strs_loop ((Walks.list hh3 _ l hneI items).toS) s.heap.objs.size hSf xs hn nd (fun i v hv => strs_ix hi i v (by rw [Array.getElem?_toList]; exact hv)) (items.size - 0) 0 _ (by omega) (Nat.zero_le _)
          ⟨⟨_, Heap.get?_push_size _ rfl, rfl, rfl⟩, (hl1.push _)⟩ ?hS0 ?hR
        case hS0 =>
          subst hob
          exact SetOf_congr ((setObjOf_fresh (knd := PySem.strKind prog w) led).setOf (Heap.get?_push_of_some _ hS) (by unfold scanBound; omega)) (fun _ => rfl) rfl
        case hR =>
          intro s' hm hS'
          obtain ⟨h', g', d', tk', os'⟩ := s'
          have eg : g' = s.gens := hm.gens
          have ed : d' = s.drawn := hm.drawn
          have eo : os' = s.os := hm.os
          subst eg; subst ed; subst eo
          show wpAny _ _ _ _ _ _
          refine wpAny_pure (wpAny_pure ⟨rfl, h', tk', rfl, hS', fun b o hb e => ?_⟩)
          have hb1 : b ≠ s.heap.objs.size := Nat.ne_of_lt hb
          have hb2 : b ≠ (s.heap.push ob).objs.size := by rw [sz]; exact Nat.ne_of_lt (Nat.lt_succ_of_lt hb)
          exact hm.heap b o (by simp only [List.mem_cons, List.not_mem_nil, or_false, not_or]; exact ⟨hb1, hb2⟩) (Heap.get?_push_of_some _ (Heap.get?_push_of_some _ e))
      · cases r₂ with
        | error e => exact hr₂
        | ok fl₂ =>
          cases fl₂ with
          | ret r =>
            obtain ⟨rfl, h', tk, rfl, hS', hk'⟩ := hr₂
            repeat (any_goals (first | assumption | wp_step))
            exact h _ _ hS' hk'
          | _ => exact hr₂.elim
    | _ => exact hr.elim
end
end HR
namespace HR
open PySem PySem.Spec PyProof.Rows L2
theorem strs_vals : ∀ {xs : List Str} {us : List Value}, Vals (xs.map V.str) us → StrsAre us xs
  | [], _, .nil => .nil
  | x :: r, _, .cons h t => by
    obtain ⟨k, rfl⟩ := h
    exact .cons x k (strs_vals t)
def tLenSetX (K : PySem.W.Frag) (ta : TE) : TE := fun σ H Q => ta σ H fun x H1 => ∃ (l : Addr) (xs : List Str), x = .ref l ∧ SqL K H1 l (xs.map V.str) ∧ xs.Nodup ∧ xs.length ≤ 1000 ∧ Q (.int (xs.length : Nat)) H1
theorem pe_lenSetX {X : Cx} {a : Expr} {ta : TE} {p p2 q pos : Pos} (hg : Gl X "len") (hm : X.mg "len" = none) (hg2 : Gl X "set") (hm2 : X.mg "set" = none) (ha : PE X a ta) (hc : X.calm = true := by rfl)
    (na : starEach [a] X.env = (false, eval a X.env) :: starEach [] X.env := by rfl) : PE X (.Call (.Name "len" p) [.Call (.Name "set" p2) [a] [] q] [] pos) (tLenSetX X.K ta) := by
  constructor
  intro pins s σ H Q I h
  apply Call_ (ld_blt I hg hm boot_len ?_)
  apply PyProof.Rows.callWith_builtin1 (PyProof.Rows.args_cons ?_ rfl) rfl rfl
  apply Call_ (ld_blt I hg2 hm2 boot_set ?_)
  apply PyProof.Rows.callWith_type1 (PyProof.Rows.args_cons (thn (ha.run pins s σ H _ I h) fun v s1 hv => PyProof.Rows.args_nil ?_) na) na rfl
  obtain ⟨x, H1, I1, r1, l, xs, rfl, hq, nd, hl, q1⟩ := hv
  cases r1
  obtain ⟨its, r, pl, hz⟩ := I1.list hq
  have hlen : its.toArray.size = xs.length := by rw [List.size_toArray, ← r.length, List.length_map]
  refine set_of_strs (I1.ok.hd hc) pl.isList (by simpa using strs_vals r) nd (by rw [hlen]; unfold scanBound; omega) fun h' tk hS hk => ?_
  apply PyProof.Rows.args_nil
  rw [hlen, List.take_length] at hS
  obtain ⟨o, es, ep, t, ho, hex, hd, _, _, _, hf, hn⟩ := hS
  have I2 : Inv X pins σ H1 { s1 with heap := h', toks := tk } := I1.kept fun b o e => hk b o (Heap.lt_size e) e
  exact call_len_set ho hex hd hf (by rw [hn]; omega) ⟨.int xs.length, H1, I2.tok _, ⟨_, by rw [hn]⟩, q1⟩
end HR
/-! the layer's rules with the written part as a letter of its own (so that they serve in a comprehension's block) -/
namespace HR
open PySem L2
section
variable {X : Cx} (K : PySem.W.Frag) (hK : X.K = K)
include hK
theorem kix_any : IxR X (rIxA K) := by subst hK; exact ix_any
theorem kix_list : IxR X (rIxL K) := by subst hK; exact ix_list
theorem kix_tup : IxR X (rIxT K) := by subst hK; exact ix_tup
theorem klen : CallR X (.builtin "len") (rLenA K) := by subst hK; exact call_lenA
theorem ktup : CallR X (.type "tuple") (rTupA K) := by subst hK; exact call_tupleA
theorem klist : CallR X (.type "list") (rListA K) := by subst hK; exact call_listA
theorem kall (hc : X.calm = true := by rfl) : CallR X (.builtin "all") (rAll K) := by subst hK; exact cr_all hc
theorem ksum (hc : X.calm = true := by rfl) : CallR X (.builtin "sum") (rSum K) := by subst hK; exact cr_sum hc
theorem kisi : CallR X (.builtin "isinstance") (rIsi K) := by subst hK; exact call_isi
theorem kisiT : CallR X (.builtin "isinstance") (rIsiT K) := by subst hK; exact call_isiT
theorem kpi_any {tg l : Expr} {tl : TE} (hl : PE X l tl) : PI X tg l (iAny K tl) := by subst hK; exact pi_any hl
theorem kpi_list {tg l : Expr} {tl : TE} (hl : PE X l tl) : PI X tg l (iList K tl) := by subst hK; exact pi_list hl
theorem kfld {e : Expr} {f : Str} {pos : Pos} {ta : TE} (he : PE X e ta) (hb : attributeBase e f X.env (eval e X.env) = eval e X.env) : PE X (.Attribute e f pos) (tFld K ta f) := by subst hK; exact pe_fld he hb
theorem ksfld {o value : Expr} {f : Str} {pos' pos : Pos} {ta tv : TE} (ha : PE X o ta) (hv : PE X value tv) (hs : swapsWith value (some (.Attribute o f pos')) pos.line X.env = pure false) : PS X (.Assign [.Attribute o f pos'] value pos) (sFld K ta tv f) := by
  subst hK; exact ps_fld ha hv hs
theorem ksfldaug {o value : Expr} {f : Str} {tpos pos : Pos} {ta tv : TE} {op : Operator} {rd : V → V → Hp → VK → Prop} (ha : PE X o ta) (hv : PE X value tv) (hop : InOp X op rd) : PS X (.AugAssign (.Attribute o f tpos) op value pos) (sFldAug K ta tv rd f) := by
  subst hK; exact ps_fldaug ha hv hop
theorem kbm {T : String} {name : Str} {id : String} {r : V → List V → Hp → VK → Prop} {o e : Expr} {es : List Expr} {to : TE} {t : TA} {apos cpos : Pos}
    (pa : PlainAttrs T) (slot : Slot T name id) (hty : typeOf (.builtin id) = pure (.type "method_descriptor")) (hm : MtR X id r) (ho : PE X o to) (ha : PA X (e :: es) t)
    (hbase : attributeBase o name X.env (eval o X.env) = eval o X.env := by rfl)
    (hfew : ((backTo cpos (starEach (e :: es) X.env)).all (fun x => !x.1) && (backToKw cpos (keywordEach [] X.env)).all (fun x => x.1.isSome)
      && decide ((e :: es).length + ([] : List Keyword).length + (if ([] : List Keyword).isEmpty then 0 else 1) < 30)) = true := by rfl)
    (hline : (apos.endLine == cpos.line) = true := by rfl) (hs : starEach (e :: es) X.env = (false, eval e X.env) :: starEach es X.env := by rfl) (hplain : (backTo cpos (starEach es X.env)).any (·.1) = false := by rfl) :
    PE X (.Call (.Attribute o name apos) (e :: es) [] cpos) (tBM K T r to t) := by subst hK; exact pe_bm pa slot hty hm ho ha hbase hfew hline hs hplain
theorem kbm0 {T : String} {name : Str} {id : String} {r : V → List V → Hp → VK → Prop} {o : Expr} {to : TE} {apos cpos : Pos}
    (pa : PlainAttrs T) (slot : Slot T name id) (hty : typeOf (.builtin id) = pure (.type "method_descriptor")) (hm : MtR X id r) (ho : PE X o to)
    (hbase : attributeBase o name X.env (eval o X.env) = eval o X.env := by rfl) (hline : (apos.endLine == cpos.line) = true := by rfl) : PE X (.Call (.Attribute o name apos) [] [] cpos) (tBM0 K T r to) := by
  subst hK; exact pe_bm0 pa slot hty hm ho hbase hline
theorem ksl_list : SlR X (rSlL K) := by subst hK; exact sl_list
theorem ksl_tup : SlR X (rSlT K) := by subst hK; exact sl_tup
theorem keqD (hu : X.A.units + 64 < cLine) : OpR X (compareOp .Eq) (rEqD K) := by subst hK; exact op_eqD hu
theorem kneD (hu : X.A.units + 64 < cLine) : OpR X (compareOp .NotEq) (rNeD K) := by subst hK; exact op_neD hu
theorem kin : OpR X (compareOp .In) (rIn K false) := by subst hK; exact op_in_seq
theorem knotin : OpR X (compareOp .NotIn) (rIn K true) := by subst hK; exact op_notIn_seq
theorem kcatT : OpR X (binaryOp .Add) (rCatT K) := by subst hK; exact op_catT
theorem kpg_tup {es : List Expr} {k : Nat} {t : TGs} {n : Nat} {pos : Pos} (h : PGs X es t) (hc : X.calm = true := by rfl)
    (hn : (assignEach es X.env).length = n := by rfl) (hst : (assignEach es X.env).findIdx? (·.1) = none := by rfl) : PG X (.Tuple es k pos) (gTup K n t) := by subst hK; exact pg_tup hc h hn hst
theorem kpi_enum {e : Expr} {ta : TA} {p pos tpos : Pos} {elts : List Expr} {kk : Nat} (hg : Gl X "enumerate") (hm : X.mg "enumerate" = none) (ha : PA X [e] ta) (hs : starEach [e] X.env = [(false, eval e X.env)] := by rfl) :
    PI X (.Tuple elts kk tpos) (.Call (.Name "enumerate" p) [e] [] pos) (iEnum K ta) := by subst hK; exact pi_enum hg hm ha hs
theorem kpi_zip {e e2 : Expr} {ta : TA} {p pos tpos : Pos} {elts : List Expr} {kk : Nat} (hg : Gl X "zip") (hm : X.mg "zip" = none) (ha : PA X [e, e2] ta)
    (hs : starEach [e, e2] X.env = (false, eval e X.env) :: starEach [e2] X.env := by rfl) (hpl : (backTo pos (starEach [e2] X.env)).any (·.1) = false := by rfl) :
    PI X (.Tuple elts kk tpos) (.Call (.Name "zip" p) [e, e2] [] pos) (iZip K ta) := by subst hK; exact pi_zip hg hm ha hs hpl
theorem klenSet {a : Expr} {ta : TE} {p p2 q pos : Pos} (hg : Gl X "len") (hm : X.mg "len" = none) (hg2 : Gl X "set") (hm2 : X.mg "set" = none) (ha : PE X a ta) (hc : X.calm = true := by rfl)
    (na : starEach [a] X.env = (false, eval a X.env) :: starEach [] X.env := by rfl) : PE X (.Call (.Name "len" p) [.Call (.Name "set" p2) [a] [] q] [] pos) (tLenSetX K ta) := by subst hK; exact pe_lenSetX hg hm hg2 hm2 ha hc na
end
/-- a loop over a list or a tuple of which S tells -/
theorem forB {K : PySem.W.Frag} {tl : TE} {g : TG} {tb : TS} {D : Ends} {σ : St} {H H1 S : Hp} {a : Addr} {xs : List V} (hl : ∀ Q' : VK, Q' (.ref a) H1 → tl σ H Q') (hs : Sq K S a xs)
    (Pv : Nat → St → Hp → Prop) (h0 : Pv 0 σ H1) (hS : ∀ i σ H, Pv i σ H → Ex S H)
    (ht : ∀ i x σ H, xs[i]? = some x → Pv i σ H → g x σ H fun σ2 H2 => tb { D with nx := Pv (i + 1), ct := Pv (i + 1), bk := D.nx } σ2 H2) (hd : ∀ σ H, Pv xs.length σ H → D.nx σ H) : tFor (iAny K tl) g tb D σ H := by
  refine hl _ ⟨a, rfl, ?_⟩
  rcases hs with hs | hs
  · exact .inl ⟨⟨xs, Evl.ex_l (hS 0 σ H1 h0) hs⟩, for_list Pv h0 (fun i σ H _ p => Evl.ex_l (hS i σ H p) hs) ht hd⟩
  · exact .inr ⟨⟨xs, Evl.ex_t (hS 0 σ H1 h0) hs⟩, for_tup Pv h0 (fun i σ H _ p => Evl.ex_t (hS i σ H p) hs) ht hd⟩
end HR
/-! bodies that change cells of others too -/
namespace HR
open PySem L2
/-- all but the cells at M stands as before -/
def ExM (M : List Addr) (H H' : Hp) : Prop := ∀ a o, a ∉ M → H a = some o → H' a = some o
theorem ExM.refl {M : List Addr} (H : Hp) : ExM M H H := fun _ _ _ h => h
theorem ExM.trans {M : List Addr} {H H1 H2 : Hp} (a : ExM M H H1) (b : ExM M H1 H2) : ExM M H H2 := fun x o n h => b x o n (a x o n h)
theorem Ex.m {M : List Addr} {H H' : Hp} (e : Ex H H') : ExM M H H' := fun a o _ h => e a o h
theorem ExM.nil {H H' : Hp} (e : ExM [] H H') : Ex H H' := fun a o h => e a o (by simp) h
/-- the state of a body: S stood at the start in H; now Sc stands in Hc; M: the cells of others that it may change; L: its own -/
structure Stm (S H : Hp) (M L : List Addr) (Sc Hc : Hp) : Prop where
  sub : Ex S Sc
  cur : Ex Sc Hc
  keep : ExM M H Hc
  new : ∀ a o, Sc a = some o → S a = some o ∨ H a = none
  loc : ∀ l ∈ L, Sc l = none ∧ H l = none
  oth : ∀ l ∈ M, Sc l = none ∧ H l ≠ none ∧ Hc l ≠ none
theorem Stm.start {S H : Hp} {M : List Addr} (h : Ex S H) (hM : ∀ l ∈ M, S l = none ∧ H l ≠ none) : Stm S H M [] S H :=
  ⟨Ex.refl S, h, ExM.refl H, fun _ _ e => .inl e, (fun _ h => nomatch h), fun l hl => ⟨(hM l hl).1, (hM l hl).2, (hM l hl).2⟩⟩
theorem Stm.fin {S H : Hp} {M L : List Addr} {Sc Hc : Hp} (t : Stm S H M L Sc Hc) (h : Ex S H) : Ex Sc (ext S H Hc) := fun a o e => by
  rcases t.new a o e with q | q
  · rw [ext_old (h a o q)]; exact q
  · rw [ext_new q]; exact t.cur a o e
theorem Stm.free {S H : Hp} {M L : List Addr} {Sc Hc : Hp} (t : Stm S H M L Sc Hc) {l : Addr} (h : Hc l = none) : H l = none := by
  cases e : H l with
  | none => rfl
  | some o =>
    by_cases z : l ∈ M
    · exact absurd h (t.oth l z).2.2
    · rw [t.keep l o z e] at h; cases h
theorem Stm.nm {S H : Hp} {M L : List Addr} {Sc Hc : Hp} (t : Stm S H M L Sc Hc) {l : Addr} (h : Hc l = none) : l ∉ M := fun z => (t.oth l z).2.2 h
/-- a step that changes nothing that stands (but the cells at M) -/
theorem Stm.step {S H : Hp} {M L : List Addr} {Sc Hc H2 : Hp} (t : Stm S H M L Sc Hc) (hl : ∀ l ∈ L, Hc l ≠ none) (e : ExM M Hc H2) (hM : ∀ l ∈ M, H2 l ≠ none) : Stm S H M L (ext Sc Hc H2) H2 where
  sub := t.sub.trans (ext_up t.cur)
  cur := fun a o q => by
    by_cases z : Hc a = none
    · rw [ext_new z] at q; exact q
    · rw [show ext Sc Hc H2 a = Sc a from if_neg z] at q
      exact e a o (fun m => by rw [(t.oth a m).1] at q; cases q) (t.cur a o q)
  keep := t.keep.trans e
  new := fun a o q => by
    by_cases z : Hc a = none
    · exact .inr (t.free z)
    · rw [show ext Sc Hc H2 a = Sc a from if_neg z] at q
      exact t.new a o q
  loc := fun l h => ⟨by rw [show ext Sc Hc H2 l = Sc l from if_neg (hl l h)]; exact (t.loc l h).1, (t.loc l h).2⟩
  oth := fun l h => ⟨by rw [show ext Sc Hc H2 l = Sc l from if_neg (t.oth l h).2.2]; exact (t.oth l h).1, (t.oth l h).2.1, hM l h⟩
theorem Stm.stepE {S H : Hp} {M L : List Addr} {Sc Hc H2 : Hp} (t : Stm S H M L Sc Hc) (hl : ∀ l ∈ L, Hc l ≠ none) (e : Ex Hc H2) : Stm S H M L (ext Sc Hc H2) H2 := t.step hl e.m fun l h => by
  cases q : Hc l with
  | none => exact absurd q (t.oth l h).2.2
  | some o => rw [e l o q]; exact fun z => nomatch z
/-- a cell of one's own is written -/
theorem Stm.put {S H : Hp} {M L : List Addr} {Sc Hc : Hp} {l : Addr} {o : HO} (t : Stm S H M L Sc Hc) (h : l ∈ L) : Stm S H M L Sc (upd Hc l o) where
  sub := t.sub
  cur := fun a u e => by
    rw [upd_ne (fun q => by rw [q, (t.loc l h).1] at e; cases e)]
    exact t.cur a u e
  keep := fun a u m e => by
    rw [upd_ne (fun q => by rw [q, (t.loc l h).2] at e; cases e)]
    exact t.keep a u m e
  new := t.new
  loc := t.loc
  oth := fun k hk => ⟨(t.oth k hk).1, (t.oth k hk).2.1, by
    by_cases z : k = l
    · rw [z, upd_same]; exact fun q => nomatch q
    · rw [upd_ne z]; exact (t.oth k hk).2.2⟩
/-- a cell of another's is written -/
theorem Stm.putM {S H : Hp} {M L : List Addr} {Sc Hc : Hp} {l : Addr} {o : HO} (t : Stm S H M L Sc Hc) (h : l ∈ M) : Stm S H M L Sc (upd Hc l o) where
  sub := t.sub
  cur := fun a u e => by
    rw [upd_ne (fun q => by rw [q, (t.oth l h).1] at e; cases e)]
    exact t.cur a u e
  keep := fun a u m e => by
    rw [upd_ne (fun q => m (by rw [q]; exact h))]
    exact t.keep a u m e
  new := t.new
  loc := t.loc
  oth := fun k hk => ⟨(t.oth k hk).1, (t.oth k hk).2.1, by
    by_cases z : k = l
    · rw [z, upd_same]; exact fun q => nomatch q
    · rw [upd_ne z]; exact (t.oth k hk).2.2⟩
/-- a new cell of one's own -/
theorem Stm.cell {S H : Hp} {M L : List Addr} {Sc Hc : Hp} {l : Addr} {o : HO} (t : Stm S H M L Sc Hc) (h : Hc l = none) : Stm S H M (l :: L) Sc (upd Hc l o) where
  sub := t.sub
  cur := t.cur.mut (t.cur.free h)
  keep := fun a u m e => by
    have : a ≠ l := fun q => by rw [q, t.free h] at e; cases e
    rw [upd_ne this]
    exact t.keep a u m e
  new := t.new
  loc := fun k hk => by
    rcases List.mem_cons.mp hk with e | hk
    · subst e; exact ⟨t.cur.free h, t.free h⟩
    · exact t.loc k hk
  oth := fun k hk => ⟨(t.oth k hk).1, (t.oth k hk).2.1, by rw [upd_ne (fun q => t.nm h (by rw [← q]; exact hk))]; exact (t.oth k hk).2.2⟩
/-- a new thing that will not change any more -/
theorem Stm.lay {S H : Hp} {M L : List Addr} {Sc Hc : Hp} {l : Addr} {o : HO} (t : Stm S H M L Sc Hc) (h : Hc l = none) (hl : ∀ k ∈ L, Hc k ≠ none) : Stm S H M L (upd Sc l o) (upd Hc l o) where
  sub := t.sub.trans (Ex.new (t.cur.free h))
  cur := fun a u e => by
    by_cases z : a = l
    · subst z; rw [upd_same] at e ⊢; exact e
    · rw [upd_ne z] at e ⊢; exact t.cur a u e
  keep := fun a u m e => by
    have : a ≠ l := fun q => by rw [q, t.free h] at e; cases e
    rw [upd_ne this]
    exact t.keep a u m e
  new := fun a u e => by
    by_cases z : a = l
    · subst z; exact .inr (t.free h)
    · rw [upd_ne z] at e; exact t.new a u e
  loc := fun k hk => by
    have z : k ≠ l := fun q => hl k hk (by rw [q]; exact h)
    exact ⟨by rw [upd_ne z]; exact (t.loc k hk).1, (t.loc k hk).2⟩
  oth := fun k hk => by
    have z : k ≠ l := fun q => t.nm h (by rw [← q]; exact hk)
    exact ⟨by rw [upd_ne z]; exact (t.oth k hk).1, (t.oth k hk).2.1, by rw [upd_ne z]; exact (t.oth k hk).2.2⟩
/-- a cell of one's own will not change any more -/
theorem Stm.freeze {S H : Hp} {M L : List Addr} {Sc Hc : Hp} {l : Addr} {o : HO} (t : Stm S H M (l :: L) Sc Hc) (h : Hc l = some o) (hl : l ∉ L) : Stm S H M L (upd Sc l o) Hc where
  sub := t.sub.trans (Ex.new (t.loc l List.mem_cons_self).1)
  cur := fun a u e => by
    by_cases z : a = l
    · subst z; rw [upd_same] at e; rw [h]; exact e
    · rw [upd_ne z] at e; exact t.cur a u e
  keep := t.keep
  new := fun a u e => by
    by_cases z : a = l
    · subst z; exact .inr (t.loc a List.mem_cons_self).2
    · rw [upd_ne z] at e; exact t.new a u e
  loc := fun k hk => by
    have z : k ≠ l := fun q => hl (by rw [← q]; exact hk)
    exact ⟨by rw [upd_ne z]; exact (t.loc k (List.mem_cons_of_mem _ hk)).1, (t.loc k (List.mem_cons_of_mem _ hk)).2⟩
  oth := fun k hk => by
    have z : k ≠ l := fun q => (t.oth k hk).2.1 (by rw [q]; exact (t.loc l List.mem_cons_self).2)
    exact ⟨by rw [upd_ne z]; exact (t.oth k hk).1, (t.oth k hk).2.1, (t.oth k hk).2.2⟩
/-- fewer cells of one's own are named -/
theorem Stm.drop {S H : Hp} {M L L' : List Addr} {Sc Hc : Hp} (t : Stm S H M L Sc Hc) (h : ∀ l ∈ L', l ∈ L) : Stm S H M L' Sc Hc := ⟨t.sub, t.cur, t.keep, t.new, fun l hl => t.loc l (h l hl), t.oth⟩

theorem ext_ch {M : List Addr} {S H H1 H' : Hp} (hS : Ex S H) (e1 : ExM M H H1) (hM : ∀ l ∈ M, H1 l ≠ none) : Ex (ext S H1 H') (ext S H H') := fun x o q => by
  by_cases z1 : H1 x = none
  · rw [ext_new z1] at q
    cases z : H x with
    | none => rw [ext_new z]; exact q
    | some o' => exact absurd z1 (by
        by_cases m : x ∈ M
        · exact hM x m
        · rw [e1 x o' m z]; exact fun y => nomatch y)
  · rw [show ext S H1 H' x = S x from if_neg z1] at q
    rw [ext_old (hS x o q)]
    exact q
/-- a comprehension whose turns change the cells at M; Iv tells of these behind i turns -/
theorem lcM {J : It} {n : Nat} {G : Hp → Prop} {Y : Nat → Hp → V → Hp → Prop} (w : Walk J n G Y) {te : TE} {g : TG} {vs : List Nat} {σ : St} {S H1 : Hp} {Q : VK}
    (M : List Addr) (Iv : Nat → Hp → Prop) (Post : Nat → V → Hp → Prop) (hS : Ex S H1) (hM : ∀ l ∈ M, S l = none) (hI : ∀ i H, Iv i H → ∀ l ∈ M, H l ≠ none) (hU : ∀ i H D o, D ∉ M → Iv i H → Iv i (upd H D o))
    (hm : ∀ i y H H', Ex H H' → Post i y H → Post i y H') (hz : n < 16000000) (h0 : Iv 0 H1) (hG : ∀ H', Ex S H' → G H')
    (turn : ∀ (i : Nat) x Sc H' H'', i < n → Ex S Sc → Ex Sc H' → (∀ l ∈ M, Sc l = none) → Iv i H' → Y i H' x H'' → ∀ C : VK, (∀ y H4, ExM M H' H4 → Iv (i + 1) H4 → Post i y (ext Sc H' H4) → C y H4) →
      g x (wipe σ vs) H'' fun σ2 H2 => wipe σ2 vs = wipe σ vs ∧ te σ2 H2 C)
    (k : ∀ D ys H', H1 D = none → ExM M H1 H' → H' D = some (.lst ys) → Iv n H' → ys.length = n → (∀ i y, ys[i]? = some y → Post i y (ext S H1 H')) → Q (.ref D) H') : LcGoal J g tYes te vs σ H1 Q := by
  intro D hD
  have nM : D ∉ M := fun z => hI 0 H1 h0 D z hD
  refine lc_it w (fun i H' => ∃ Sc ys, Stm S H1 M [D] Sc H' ∧ H' D = some (.lst ys) ∧ ys.length = i ∧ Iv i H' ∧ ∀ j y, ys[j]? = some y → Post j y Sc)
    ⟨S, [], (Stm.start hS fun l hl => ⟨hM l hl, hI 0 H1 h0 l hl⟩).cell hD, upd_same, rfl, hU _ _ _ _ nM h0, fun j y h => by simp at h⟩ (fun i H' _ ⟨Sc, ys, t, _⟩ => hG H' (t.sub.trans t.cur)) ?_ ?_
  · rintro i x H' H'' hi ⟨Sc, ys, t, hd, hl, iv, hp⟩ y
    have hlD : ∀ l ∈ [D], H' l ≠ none := fun l hl => by
      cases List.mem_singleton.mp hl
      rw [hd]
      exact fun q => nomatch q
    have cast : ∀ {A B : St → Hp → Prop}, (g x (wipe σ vs) H'' A) → True := fun _ => trivial
    refine turn i x Sc H' H'' hi t.sub t.cur (fun l hl => (t.oth l hl).1) iv y _ fun z H4 e4 iv4 pz => ⟨ys, e4 D _ nM hd, by unfold sizeLine; omega, _, _, (t.step hlD e4 (hI _ _ iv4)).put List.mem_cons_self, upd_same, by rw [List.length_append, hl]; rfl, hU _ _ _ _ nM iv4, fun j u hj => ?_⟩
    by_cases hji : j < ys.length
    · rw [List.getElem?_append_left hji] at hj
      exact hm _ _ _ _ (ext_up t.cur) (hp j u hj)
    · rw [List.getElem?_append_right (by omega)] at hj
      have : j = ys.length := by
        have := (List.getElem?_eq_some_iff.mp hj).1
        simp at this
        omega
      subst this
      rw [Nat.sub_self] at hj
      cases hj
      rw [hl]
      exact pz
  · rintro H' ⟨Sc, ys, t, hd, hl, iv, hp⟩
    exact k D ys H' hD t.keep hd iv hl fun i y h => hm _ _ _ _ (t.fin hS) (hp i y h)
end HR
/-! what stands in the heap: talks, talkers, halls, schedules, members -/
namespace HR
open PySem L2
/-- numbers of less than some hundred thousand bits -/
@[irreducible] def BIG : Nat := 2 ^ 100000
def Bd (n : Int) : Prop := n.natAbs < BIG
theorem Bd.le {a b : Int} (h : Bd b) (h0 : 0 ≤ a) (h1 : a ≤ b) : Bd a := by unfold Bd at *; omega
theorem Bd.le2 {a b : Int} (h : Bd b) (h1 : a.natAbs ≤ b.natAbs) : Bd a := by unfold Bd at *; omega
theorem Bd.log {a : Int} (h : Bd a) : a.natAbs.log2 < 100000 := by
  unfold Bd BIG at h
  exact PySem.Flt.log2_lt_of (by decide) h
theorem Bd.mul {a b : Int} (ha : Bd a) (hb : Bd b) : CMulW a b := by
  have := ha.log
  have := hb.log
  unfold CMulW
  omega
@[irreducible] def TOP : Nat := 10 ^ 250
theorem top_ge {n : Nat} (h : n ≤ 10 ^ 250) : n ≤ TOP := by unfold TOP; exact h
theorem Bd.ofTop {a : Int} (h : a.natAbs ≤ TOP) : Bd a := by
  unfold Bd BIG
  unfold TOP at h
  exact Nat.lt_of_le_of_lt h (by decide +kernel)
theorem divW {i j : Int} (h : 0 < j) (h2 : j.natAbs ≤ TOP) : CDivW i j := ⟨h, by
  unfold TOP at h2
  refine PySem.Flt.log2_lt_of (by decide) (Nat.lt_of_le_of_lt h2 ?_)
  decide +kernel⟩
theorem divP {i j : Int} (h : 0 < j) (h2 : j.natAbs ≤ TOP) : CDivP i j := ⟨h, PyProof.noPylong_of_log2 (divW (i := i) h h2).2⟩
theorem top_small {n : Nat} (h : n ≤ 10 ^ 40) : n ≤ TOP := top_ge (Nat.le_trans h (Nat.pow_le_pow_right (by decide) (by decide)))
/-- the last of running sums -/
theorem rs_last (l : List Int) : atI ((rs l).map V.int) (-1) = some (.int l.sum) := by
  have h : ∃ r, rs l = r ++ [l.sum] := by
    refine ⟨(rs l).dropLast, ?_⟩
    have hl := rs_length l
    have hg := rs_get l l.length (Nat.le_refl _)
    rw [List.take_length] at hg
    have ne : rs l ≠ [] := fun q => by rw [q] at hl; simp at hl
    have := List.dropLast_concat_getLast ne
    have e : (rs l)[(rs l).length - 1]? = some l.sum := by rw [hl]; simpa using hg
    rw [List.getElem?_eq_some_iff] at e
    obtain ⟨_, e⟩ := e
    rw [List.getLast_eq_getElem, e] at this
    exact this.symm
  obtain ⟨r, e⟩ := h
  rw [e, List.map_append]
  exact atI_last _ _
theorem rs_at (l : List Int) {i : Nat} (h : i ≤ l.length) : atI ((rs l).map V.int) (i : Int) = some (.int (l.take i).sum) :=
  atI_nat (by rw [List.getElem?_map, rs_get l i h]; rfl)
/-- a name: one to eight lowercase letters -/
def NameOk (z : Str) : Prop := 1 ≤ z.length ∧ z.length ≤ 8 ∧ ∀ c ∈ z.cps.toList, 97 ≤ c ∧ c ≤ 122
abbrev Tk := TkG Str Sch
structure TkFine (t : Tk) : Prop where
  nm : NameOk t.name
  lo : 1 ≤ t.rank
  hi : t.rank ≤ 10
  sc : t.sch.Ok
structure HallOk (ms : List Tk) : Prop where
  all : ∀ m ∈ ms, TkFine m
  len : ms.length ≤ 10
  nd : (ms.map (·.name)).Nodup
theorem csum_le {s : Sch} (h : s.Ok) (f : F2) (hf : ∀ t, TkOk t → 1 ≤ f t ∧ f t ≤ 10 ^ 30) : (s.csum f).natAbs ≤ TOP := by
  have h1 : ∀ l : List (Int × Int), (∀ t ∈ l, TkOk t) → 0 ≤ (l.map f).sum ∧ (l.map f).sum ≤ (l.length : Int) * 10 ^ 30 := by
    intro l
    induction l with
    | nil => simp
    | cons a r ih =>
      intro hl
      have := ih fun t ht => hl t (List.mem_cons_of_mem _ ht)
      have := hf a (hl a List.mem_cons_self)
      simp only [List.map_cons, List.sum_cons, List.length_cons]
      have e : ((r.length + 1 : Nat) : Int) * 10 ^ 30 = (r.length : Int) * 10 ^ 30 + 10 ^ 30 := by rw [Int.natCast_succ, Int.add_mul, Int.one_mul]
      omega
  have := h1 s.cyc h.tc
  have hl := h.lc
  unfold Sch.csum
  have h8 : (s.cyc.length : Int) * 10 ^ 30 ≤ 8 * 10 ^ 30 := Int.mul_le_mul_of_nonneg_right (by omega) (by decide)
  exact top_small (by omega)
theorem csum1_le {s : Sch} (h : s.Ok) : (s.csum (·.1)).natAbs ≤ TOP := csum_le h _ fun _ ht => ⟨ht.1, ht.2.1⟩
theorem csum2_le {s : Sch} (h : s.Ok) : (s.csum (·.2)).natAbs ≤ TOP := csum_le h _ fun _ ht => ⟨ht.2.2.1, ht.2.2.2⟩
theorem csum1_pos {s : Sch} (h : s.Ok) : 0 < s.csum (·.1) := by have := Sch.csum_pos h (·.1) fun t ht => ht.1; omega
theorem cut1 (xs : List V) : cutV xs (some 1) none = xs.drop 1 := by
  unfold cutV
  rw [show HT.sIx xs.length 0 (some 1) = min 1 xs.length from HT.sIx_nat xs.length 0 1, HT.sIx_none]
  cases xs with
  | nil => rfl
  | cons x r =>
    rw [show min 1 (x :: r).length = 1 by rw [List.length_cons]; omega]
    show List.take ((x :: r).length - 1) r = r
    rw [List.length_cons, Nat.add_sub_cancel, List.take_length]
theorem HallOk.sch {ms : List Tk} (h : HallOk ms) : AllOk ms := fun m hm => (h.all m hm).sc
def pairV (t : Int × Int) : List V := [.int t.1, .int t.2]
variable {K : PySem.W.Frag} {H H' : Hp} {C : String → Addr}
def TalkAt (K : PySem.W.Frag) (H : Hp) (v : V) (t : Int × Int) : Prop := ∃ a, v = .ref a ∧ Sq K H a (pairV t)
def TalksAt (K : PySem.W.Frag) (H : Hp) (v : V) (ts : List (Int × Int)) : Prop := ∃ a xs, v = .ref a ∧ Sq K H a xs ∧ PySem.Paired (TalkAt K H) xs ts
def TkAt (K : PySem.W.Frag) (H : Hp) (v : V) (m : Tk) : Prop := ∃ a p c, v = .ref a ∧ Sq K H a [.str m.name, .int m.rank, p, c] ∧ TalksAt K H p m.sch.pre ∧ TalksAt K H c m.sch.cyc
def HallAt (K : PySem.W.Frag) (H : Hp) (v : V) (ms : List Tk) : Prop := ∃ a xs, v = .ref a ∧ Sq K H a xs ∧ PySem.Paired (TkAt K H) xs ms
theorem TalkAt.ex {v : V} {t : Int × Int} (e : Ex H H') (h : TalkAt K H v t) : TalkAt K H' v t := by
  obtain ⟨a, r, h⟩ := h; exact ⟨a, r, h.ex e⟩
theorem TalksAt.ex {v : V} {t : List (Int × Int)} (e : Ex H H') (h : TalksAt K H v t) : TalksAt K H' v t := by
  obtain ⟨a, xs, r, h, p⟩ := h; exact ⟨a, xs, r, h.ex e, Paired.imp p fun _ _ q => q.ex e⟩
theorem TkAt.ex {v : V} {m : Tk} (e : Ex H H') (h : TkAt K H v m) : TkAt K H' v m := by
  obtain ⟨a, p, c, r, h, h1, h2⟩ := h; exact ⟨a, p, c, r, h.ex e, h1.ex e, h2.ex e⟩
theorem HallAt.ex {v : V} {m : List Tk} (e : Ex H H') (h : HallAt K H v m) : HallAt K H' v m := by
  obtain ⟨a, xs, r, h, p⟩ := h; exact ⟨a, xs, r, h.ex e, Paired.imp p fun _ _ q => q.ex e⟩
/-- a hall as a list of lists or tuples -/
def HallV (K : PySem.W.Frag) (H : Hp) (v : V) (ms : List Tk) : Prop := ∃ a xs, v = .ref a ∧ SqL K H a xs ∧ PySem.Paired (TkAt K H) xs ms
theorem HallV.ex {v : V} {m : List Tk} (e : Ex H H') (h : HallV K H v m) : HallV K H' v m := by
  obtain ⟨a, xs, r, h, p⟩ := h; exact ⟨a, xs, r, Evl.ex_l e h, Paired.imp p fun _ _ q => q.ex e⟩
theorem HallV.any {v : V} {m : List Tk} (h : HallV K H v m) : HallAt K H v m := by
  obtain ⟨a, xs, r, h, p⟩ := h; exact ⟨a, xs, r, .inl h, p⟩
/-- talks as they stand in a schedule: a list of tuples -/
def LTalks (K : PySem.W.Frag) (H : Hp) (a : Addr) (ts : List (Int × Int)) : Prop := ∃ xs, H a = some (.lst xs) ∧ PySem.Paired (fun x t => ∃ b, x = .ref b ∧ SqT K H b (pairV t)) xs ts
theorem LTalks.ex {a : Addr} {t : List (Int × Int)} (e : Ex H H') (h : LTalks K H a t) : LTalks K H' a t := by
  obtain ⟨xs, h, p⟩ := h; exact ⟨xs, e _ _ h, Paired.imp p fun _ _ ⟨b, q, z⟩ => ⟨b, q, Evl.ex_t e z⟩⟩
/-- the attributes of a schedule, in the order in which they are stored -/
def schF1 (p : Addr) : List (Str × V) := putF "prefix" (.ref p) []
def schF2 (p c : Addr) : List (Str × V) := putF "cycle" (.ref c) (schF1 p)
def schF3 (p c a1 : Addr) : List (Str × V) := putF "prefix_silences" (.ref a1) (schF2 p c)
def schF4 (p c a1 a2 : Addr) : List (Str × V) := putF "prefix_lengths" (.ref a2) (schF3 p c a1)
def schF5 (p c a1 a2 a3 : Addr) : List (Str × V) := putF "cycle_silences" (.ref a3) (schF4 p c a1 a2)
def schF6 (p c a1 a2 a3 a4 : Addr) : List (Str × V) := putF "cycle_lengths" (.ref a4) (schF5 p c a1 a2 a3)
/-- a Schedule at a -/
structure SchAt (C : String → Addr) (K : PySem.W.Frag) (H : Hp) (a : Addr) (s : Sch) : Prop where
  ob : ∃ dx fs, H a = some (.ins (C "Schedule") dx fs) ∧ (∃ p, fs.lookup ("prefix" : Str) = some (.ref p) ∧ LTalks K H p s.pre) ∧ (∃ p, fs.lookup ("cycle" : Str) = some (.ref p) ∧ LTalks K H p s.cyc) ∧
    (∃ p, fs.lookup ("prefix_silences" : Str) = some (.ref p) ∧ H p = some (.lst ((rs (s.pre.map (·.1))).map V.int))) ∧ (∃ p, fs.lookup ("prefix_lengths" : Str) = some (.ref p) ∧ H p = some (.lst ((rs (s.pre.map (·.2))).map V.int))) ∧
    (∃ p, fs.lookup ("cycle_silences" : Str) = some (.ref p) ∧ H p = some (.lst ((rs (s.cyc.map (·.1))).map V.int))) ∧ (∃ p, fs.lookup ("cycle_lengths" : Str) = some (.ref p) ∧ H p = some (.lst ((rs (s.cyc.map (·.2))).map V.int))) ∧
    fs.lookup ("nth_talk" : Str) = none ∧ fs.lookup ("sum_of_first" : Str) = none ∧ fs.lookup ("nth_ready" : Str) = none ∧ fs.lookup ("count_ready" : Str) = none ∧ fs.lookup ("length_ready" : Str) = none
theorem SchAt.ex {a : Addr} {s : Sch} (e : Ex H H') (h : SchAt C K H a s) : SchAt C K H' a s := by
  obtain ⟨dx, fs, h0, ⟨p1, h1, g1⟩, ⟨p2, h2, g2⟩, ⟨p3, h3, g3⟩, ⟨p4, h4, g4⟩, ⟨p5, h5, g5⟩, ⟨p6, h6, g6⟩, r⟩ := h
  exact ⟨dx, fs, e _ _ h0, ⟨p1, h1, g1.ex e⟩, ⟨p2, h2, g2.ex e⟩, ⟨p3, h3, e _ _ g3⟩, ⟨p4, h4, e _ _ g4⟩, ⟨p5, h5, e _ _ g5⟩, ⟨p6, h6, e _ _ g6⟩, r⟩
/-- a Member at v -/
def MemAt (C : String → Addr) (K : PySem.W.Frag) (H : Hp) (v : V) (m : Tk) : Prop := ∃ a dx fs s, v = .ref a ∧ H a = some (.ins (C "Member") dx fs) ∧ fs.lookup ("name" : Str) = some (.str m.name) ∧ fs.lookup ("rank" : Str) = some (.int m.rank) ∧ fs.lookup ("schedule" : Str) = some (.ref s) ∧ SchAt C K H s m.sch
theorem MemAt.ex {v : V} {m : Tk} (e : Ex H H') (h : MemAt C K H v m) : MemAt C K H' v m := by
  obtain ⟨a, dx, fs, s, r, h, h1, h2, h3, h4⟩ := h; exact ⟨a, dx, fs, s, r, e _ _ h, h1, h2, h3, h4.ex e⟩
/-- the list of members at v -/
def MemsAt (C : String → Addr) (K : PySem.W.Frag) (H : Hp) (v : V) (ms : List Tk) : Prop := ∃ a xs, v = .ref a ∧ H a = some (.lst xs) ∧ PySem.Paired (MemAt C K H) xs ms
theorem MemsAt.ex {v : V} {m : List Tk} (e : Ex H H') (h : MemsAt C K H v m) : MemsAt C K H' v m := by
  obtain ⟨a, xs, r, h, p⟩ := h; exact ⟨a, xs, r, e _ _ h, Paired.imp p fun _ _ q => q.ex e⟩
end HR
/-! the spring: what is drawn -/
namespace HR
open PySem L2
/-- the spring at a: its cells, and how often it may still be asked -/
def SpringAt (H : Hp) (a : Addr) (b : Nat) : Prop := ∃ d s c : Int, H a = some (.lst [.int d, .int s, .int c]) ∧ 0 ≤ d ∧ Bd d ∧ 0 ≤ s ∧ s < 2305843009213693951 ∧ 0 ≤ c ∧ c + b ≤ 2 ^ 60
theorem SpringAt.ne {H : Hp} {a : Addr} {b : Nat} (h : SpringAt H a b) : H a ≠ none := by
  obtain ⟨d, s, c, e, _⟩ := h
  rw [e]; exact fun q => nomatch q
theorem SpringAt.less {H : Hp} {a : Addr} {b b' : Nat} (h : SpringAt H a b) (hb : b' ≤ b) : SpringAt H a b' := by
  obtain ⟨d, s, c, e, h1, h2, h3, h4, h5, h6⟩ := h
  exact ⟨d, s, c, e, h1, h2, h3, h4, h5, by omega⟩
theorem SpringAt.upd {H : Hp} {a D : Addr} {b : Nat} {o : HO} (h : SpringAt H a b) (hD : D ∉ [a]) : SpringAt (upd H D o) a b := by
  obtain ⟨d, s, c, e, r⟩ := h
  exact ⟨d, s, c, by rw [upd_ne (fun q => hD (by rw [q]; exact List.mem_cons_self))]; exact e, r⟩
theorem SpringAt.ex {H H' : Hp} {a : Addr} {b : Nat} (h : SpringAt H a b) (e : Ex H H') : SpringAt H' a b := by
  obtain ⟨d, s, c, q, r⟩ := h
  exact ⟨d, s, c, e _ _ q, r⟩
theorem cutHi (xs : List V) (n : Nat) : cutV xs none (some (n : Int)) = xs.take n := by
  unfold cutV
  rw [show HT.sIx xs.length xs.length (some (n : Int)) = min n xs.length from HT.sIx_nat xs.length xs.length n, HT.sIx_none]
  rw [List.drop_zero, Nat.sub_zero]
  rcases Nat.le_total n xs.length with h | h
  · rw [Nat.min_eq_left h]
  · rw [Nat.min_eq_right h, List.take_length, List.take_of_length_le h]
theorem ex_paired {α β : Type} {F : α → β → Prop} : ∀ {l : List α}, (∀ (i : Nat) (a : α), l[i]? = some a → ∃ b, F a b) → ∃ r : List β, PySem.Paired F l r
  | [], _ => ⟨[], .nil⟩
  | a :: l, h => by
    obtain ⟨b, hb⟩ := h 0 a rfl
    obtain ⟨r, hr⟩ := ex_paired (l := l) fun i x hx => h (i + 1) x (by simpa using hx)
    exact ⟨b :: r, .cons hb hr⟩
theorem Paired.all {α β : Type} {F : α → β → Prop} {G : β → Prop} : ∀ {l : List α} {r : List β}, PySem.Paired F l r → (∀ a b, F a b → G b) → ∀ b ∈ r, G b
  | _, _, .nil, _, b, hb => nomatch hb
  | _, _, .cons h t, f, b, hb => by
    rcases List.mem_cons.mp hb with e | hb
    · rw [e]; exact f _ _ h
    · exact Paired.all t f b hb
/-- a list of tuples -/
def TalksL (K : PySem.W.Frag) (H : Hp) (v : V) (ts : List (Int × Int)) : Prop := ∃ a, v = .ref a ∧ LTalks K H a ts
theorem TalksL.ex {K : PySem.W.Frag} {H H' : Hp} {v : V} {ts : List (Int × Int)} (e : Ex H H') (h : TalksL K H v ts) : TalksL K H' v ts := by
  obtain ⟨a, q, h⟩ := h; exact ⟨a, q, h.ex e⟩
theorem TalksL.any {K : PySem.W.Frag} {H : Hp} {v : V} {ts : List (Int × Int)} (h : TalksL K H v ts) : TalksAt K H v ts := by
  obtain ⟨a, q, xs, h, p⟩ := h
  exact ⟨a, xs, q, Sq.l h, Paired.imp p fun _ _ ⟨b, e, z⟩ => ⟨b, e, .inr z⟩⟩
/-- the bounds of drawn talks -/
def TkIn (m : Int) (t : Int × Int) : Prop := 1 ≤ t.1 ∧ t.1 ≤ m ∧ 1 ≤ t.2 ∧ t.2 ≤ m
theorem TkIn.ok {m : Int} {t : Int × Int} (h : TkIn m t) (hm : m ≤ 10 ^ 30) : TkOk t := ⟨h.1, Int.le_trans h.2.1 hm, h.2.2.1, Int.le_trans h.2.2.2 hm⟩
structure TalksAsk where
  a : Addr
  lo : Nat
  more : Nat
  m : Int
  b : Nat
  S : Hp
def talksPost (K : PySem.W.Frag) (x : TalksAsk) (H : Hp) (Q : VK) : Prop := Ex x.S H ∧ x.S x.a = none ∧ SpringAt H x.a (x.b + 40) ∧ 0 < x.more ∧ x.lo + x.more ≤ 9 ∧ 1 ≤ x.m ∧ x.m ≤ 10 ^ 30 ∧
  ∀ v ts H', ExM [x.a] H H' → SpringAt H' x.a x.b → TalksL K (ext x.S H H') v ts → (∀ t ∈ ts, TkIn x.m t) → x.lo ≤ ts.length → ts.length ≤ 8 → Q v H'
def sp_talks (K : PySem.W.Frag) : Sp := Spec (α := TalksAsk) (fun x => [.ref x.a, .int x.lo, .int x.more, .int x.m]) (talksPost K)
/-- the names that halls are drawn from -/
def NamesOk (ns : List Str) : Prop := ∀ z ∈ ns, NameOk z
structure HallAsk where
  a : Addr
  n : Nat
  m : Int
  b : Nat
  S : Hp
/-- a talker whose talks lie between 1 and m -/
structure TkFineIn (m : Int) (t : Tk) : Prop where
  fine : TkFine t
  tp : ∀ u ∈ t.sch.pre, TkIn m u
  tc : ∀ u ∈ t.sch.cyc, TkIn m u
def hallPost (K : PySem.W.Frag) (x : HallAsk) (H : Hp) (Q : VK) : Prop := Ex x.S H ∧ x.S x.a = none ∧ SpringAt H x.a (x.b + 2000) ∧ x.n ≤ 10 ∧ 1 ≤ x.m ∧ x.m ≤ 10 ^ 30 ∧
  ∀ v ms H', ExM [x.a] H H' → SpringAt H' x.a x.b → HallV K (ext x.S H H') v ms → HallOk ms → ms.length ≤ x.n → (∀ t ∈ ms, TkFineIn x.m t) → Q v H'
def sp_hall (K : PySem.W.Frag) : Sp := Spec (α := HallAsk) (fun x => [.ref x.a, .int x.n, .int x.m]) (hallPost K)
theorem use_hall {K : PySem.W.Frag} {a : Addr} {n : Nat} {m : Int} {S H : Hp} {Q : VK} (b : Nat) (hS : Ex S H) (nS : S a = none) (sp : SpringAt H a (b + 2000)) (n10 : n ≤ 10) (l0 : 1 ≤ m) (l1 : m ≤ 10 ^ 30)
    (k : ∀ v ms H', ExM [a] H H' → SpringAt H' a b → HallV K (ext S H H') v ms → HallOk ms → ms.length ≤ n → (∀ t ∈ ms, TkFineIn m t) → Q v H') : ∃ x : HallAsk, [V.ref a, V.int n, V.int m] = [V.ref x.a, V.int x.n, V.int x.m] ∧ hallPost K x H Q := ⟨⟨a, n, m, b, S⟩, rfl, hS, nS, sp, n10, l0, l1, k⟩
theorem seqIx {n j : Nat} (h : j < n) : seqIndex? (j : Int) n = some j := by
  unfold seqIndex?
  simp
  omega
theorem erase_perm {α : Type} : ∀ (l : List α) (k : Nat) (z : α), l[k]? = some z → (z :: l.eraseIdx k).Perm l
  | [], _, _, h => by simp at h
  | a :: l, 0, z, h => by
    simp only [List.getElem?_cons_zero, Option.some.injEq] at h
    subst h
    exact List.Perm.refl _
  | a :: l, k + 1, z, h => by
    simp only [List.getElem?_cons_succ] at h
    exact (List.Perm.swap a z _).trans ((erase_perm l k z h).cons a)
theorem map_erase {α β : Type} (f : α → β) : ∀ (l : List α) (k : Nat), (l.map f).eraseIdx k = (l.eraseIdx k).map f
  | [], _ => rfl
  | _ :: _, 0 => rfl
  | a :: l, k + 1 => congrArg (f a :: ·) (map_erase f l k)
/-- an item of a list of ints -/
theorem at_ints (ns : List Int) (j : Int) (h0 : 0 ≤ j) (h1 : j < ns.length) : ∃ n, n ∈ ns ∧ atI (ns.map V.int) j = some (.int n) := by
  have hj : j.toNat < ns.length := by omega
  refine ⟨ns[j.toNat], List.getElem_mem hj, ?_⟩
  have := atI_nat (xs := ns.map V.int) (j := j.toNat) (v := .int ns[j.toNat]) (by rw [List.getElem?_map, List.getElem?_eq_getElem hj]; rfl)
  rwa [Int.toNat_of_nonneg h0] at this
/-- a number that is drawn below many -/
structure DrawAsk where
  a : Addr
  n : Int
  b : Nat
def drawPost (x : DrawAsk) (H : Hp) (Q : VK) : Prop := SpringAt H x.a (x.b + 1) ∧ 0 < x.n ∧ x.n.natAbs ≤ TOP ∧ ∀ k H', ExM [x.a] H H' → SpringAt H' x.a x.b → 0 ≤ k → k < x.n → Q (.int k) H'
def sp_draw : Sp := Spec (α := DrawAsk) (fun x => [.ref x.a, .int x.n]) drawPost
theorem use_draw {a : Addr} {n : Int} {H : Hp} {Q : VK} (b : Nat) (sp : SpringAt H a (b + 1)) (n0 : 0 < n) (n1 : n.natAbs ≤ TOP) (k : ∀ k H', ExM [a] H H' → SpringAt H' a b → 0 ≤ k → k < n → Q (.int k) H') :
    ∃ x : DrawAsk, [V.ref a, V.int n] = [V.ref x.a, V.int x.n] ∧ drawPost x H Q := ⟨⟨a, n, b⟩, rfl, sp, n0, n1, k⟩
theorem use_talks {K : PySem.W.Frag} {a : Addr} {lo more : Nat} {m : Int} {S H : Hp} {Q : VK} (b : Nat) (hS : Ex S H) (nS : S a = none) (sp : SpringAt H a (b + 40)) (m0 : 0 < more) (hm : lo + more ≤ 9) (l0 : 1 ≤ m) (l1 : m ≤ 10 ^ 30)
    (k : ∀ v ts H', ExM [a] H H' → SpringAt H' a b → TalksL K (ext S H H') v ts → (∀ t ∈ ts, TkIn m t) → lo ≤ ts.length → ts.length ≤ 8 → Q v H') :
    ∃ x : TalksAsk, [V.ref a, V.int lo, V.int more, V.int m] = [V.ref x.a, V.int x.lo, V.int x.more, V.int x.m] ∧ talksPost K x H Q := ⟨⟨a, lo, more, m, b, S⟩, rfl, hS, nS, sp, m0, hm, l0, l1, k⟩
end HR
/-! trees of ints and texts, whatever their lists and tuples are -/
namespace HR
open PySem L2
inductive Tr where
  | int (i : Int)
  | str (z : Str)
  | node (ts : List Tr)
mutual
def Tr.depth : Tr → Nat
  | .int _ => 0
  | .str _ => 0
  | .node ts => Tr.depthAll ts + 1
def Tr.depthAll : List Tr → Nat
  | [] => 0
  | t :: ts => max t.depth (Tr.depthAll ts)
end
mutual
def Tr.size : Tr → Nat
  | .int _ => 1
  | .str _ => 1
  | .node ts => Tr.sizeAll ts + 1
def Tr.sizeAll : List Tr → Nat
  | [] => 0
  | t :: ts => t.size + Tr.sizeAll ts
end
mutual
inductive TrAt (K : PySem.W.Frag) (H : Hp) : V → Tr → Prop where
  | int (i : Int) : TrAt K H (.int i) (.int i)
  | str (z : Str) : TrAt K H (.str z) (.str z)
  | node {a : Addr} {xs : List V} {ts : List Tr} : Sq K H a xs → TrAll K H xs ts → TrAt K H (.ref a) (.node ts)
inductive TrAll (K : PySem.W.Frag) (H : Hp) : List V → List Tr → Prop where
  | nil : TrAll K H [] []
  | cons {v : V} {vs : List V} {t : Tr} {ts : List Tr} : TrAt K H v t → TrAll K H vs ts → TrAll K H (v :: vs) (t :: ts)
end
variable {K : PySem.W.Frag} {H H' : Hp}
mutual
theorem TrAt.ex (e : Ex H H') : ∀ (t : Tr) {v : V}, TrAt K H v t → TrAt K H' v t
  | .int i, _, h => by cases h; exact .int i
  | .str z, _, h => by cases h; exact .str z
  | .node ts, _, h => by
    cases h with
    | node q r => exact .node (q.ex e) (TrAll.ex e ts r)
theorem TrAll.ex (e : Ex H H') : ∀ (ts : List Tr) {vs : List V}, TrAll K H vs ts → TrAll K H' vs ts
  | [], _, h => by cases h; exact .nil
  | t :: ts, _, h => by
    cases h with
    | cons q r => exact .cons (TrAt.ex e t q) (TrAll.ex e ts r)
end
theorem TrAll.pair : ∀ {vs : List V} {ts : List Tr}, TrAll K H vs ts → PySem.Paired (TrAt K H) vs ts
  | [], _, h => by cases h; exact .nil
  | v :: vs, _, h => by
    cases h with
    | cons q r => exact .cons q (TrAll.pair r)
theorem TrAll.of_pair : ∀ {vs : List V} {ts : List Tr}, PySem.Paired (TrAt K H) vs ts → TrAll K H vs ts
  | _, _, .nil => .nil
  | _, _, .cons q r => .cons q (TrAll.of_pair r)
theorem Tr.depth_get : ∀ {ts : List Tr} {i : Nat} {t : Tr}, ts[i]? = some t → t.depth ≤ Tr.depthAll ts
  | [], _, _, h => by simp at h
  | t :: ts, 0, _, h => by
    simp only [List.getElem?_cons_zero, Option.some.injEq] at h
    subst h
    simp only [Tr.depthAll]; omega
  | t :: ts, i + 1, _, h => by
    simp only [List.getElem?_cons_succ] at h
    have := Tr.depth_get h
    simp only [Tr.depthAll]; omega
theorem Tr.size_drop : ∀ {ts : List Tr} {i : Nat} {t : Tr}, ts[i]? = some t → Tr.sizeAll (ts.drop i) = t.size + Tr.sizeAll (ts.drop (i + 1))
  | [], _, _, h => by simp at h
  | t :: ts, 0, _, h => by
    simp only [List.getElem?_cons_zero, Option.some.injEq] at h
    subst h
    rfl
  | t :: ts, i + 1, _, h => by
    simp only [List.getElem?_cons_succ] at h
    exact Tr.size_drop (ts := ts) (i := i) h
/-! ### the trees of halls -/
def trTalk (t : Int × Int) : Tr := .node [.int t.1, .int t.2]
def trTalks (ts : List (Int × Int)) : Tr := .node (ts.map trTalk)
def trTk (m : Tk) : Tr := .node [.str m.name, .int m.rank, trTalks m.sch.pre, trTalks m.sch.cyc]
def trHall (ms : List Tk) : Tr := .node (ms.map trTk)
theorem TrAll.map_of {α : Type} {F : V → α → Prop} {f : α → Tr} (h : ∀ v a, F v a → TrAt K H v (f a)) : ∀ {vs : List V} {as : List α}, PySem.Paired F vs as → TrAll K H vs (as.map f)
  | _, _, .nil => .nil
  | _, _, .cons q r => .cons (h _ _ q) (TrAll.map_of h r)
theorem TrAll.map_to {α : Type} {F : V → α → Prop} {f : α → Tr} (h : ∀ v a, TrAt K H v (f a) → F v a) : ∀ {as : List α} {vs : List V}, TrAll K H vs (as.map f) → PySem.Paired F vs as
  | [], _, q => by cases q; exact .nil
  | a :: as, _, q => by
    cases q with
    | cons q r => exact .cons (h _ _ q) (TrAll.map_to h r)
theorem TalkAt.tr {v : V} {t : Int × Int} (h : TalkAt K H v t) : TrAt K H v (trTalk t) := by
  obtain ⟨a, rfl, h⟩ := h
  exact .node h (.cons (.int _) (.cons (.int _) .nil))
theorem TrAt.talk {v : V} {t : Int × Int} (h : TrAt K H v (trTalk t)) : TalkAt K H v t := by
  cases h with
  | node h r =>
    cases r with
    | cons h1 r =>
      cases r with
      | cons h2 r =>
        cases r
        cases h1
        cases h2
        exact ⟨_, rfl, h⟩
theorem TalksAt.tr {v : V} {t : List (Int × Int)} (h : TalksAt K H v t) : TrAt K H v (trTalks t) := by
  obtain ⟨a, xs, rfl, h, p⟩ := h
  exact .node h (TrAll.map_of (fun _ _ q => q.tr) p)
theorem TrAt.talks {v : V} {t : List (Int × Int)} (h : TrAt K H v (trTalks t)) : TalksAt K H v t := by
  cases h with
  | node h r => exact ⟨_, _, rfl, h, TrAll.map_to (fun _ _ q => q.talk) r⟩
theorem TkAt.tr {v : V} {m : Tk} (h : TkAt K H v m) : TrAt K H v (trTk m) := by
  obtain ⟨a, p, c, rfl, h, h1, h2⟩ := h
  exact .node h (.cons (.str _) (.cons (.int _) (.cons h1.tr (.cons h2.tr .nil))))
theorem TrAt.tk {v : V} {m : Tk} (h : TrAt K H v (trTk m)) : TkAt K H v m := by
  cases h with
  | node h r =>
    cases r with
    | cons h1 r =>
      cases r with
      | cons h2 r =>
        cases r with
        | cons h3 r =>
          cases r with
          | cons h4 r =>
            cases r
            cases h1
            cases h2
            exact ⟨_, _, _, rfl, h, h3.talks, h4.talks⟩
theorem HallAt.tr {v : V} {ms : List Tk} (h : HallAt K H v ms) : TrAt K H v (trHall ms) := by
  obtain ⟨a, xs, rfl, h, p⟩ := h
  exact .node h (TrAll.map_of (fun _ _ q => q.tr) p)
theorem TrAt.hall {v : V} {ms : List Tk} (h : TrAt K H v (trHall ms)) : HallAt K H v ms := by
  cases h with
  | node h r => exact ⟨_, _, rfl, h, TrAll.map_to (fun _ _ q => q.tk) r⟩
theorem Tr.sizeAll_map {α : Type} (f : α → Tr) (n : Nat) : ∀ (l : List α), (∀ a ∈ l, (f a).size ≤ n) → Tr.sizeAll (l.map f) ≤ l.length * n
  | [], _ => by simp [Tr.sizeAll]
  | a :: l, h => by
    have h1 := h a List.mem_cons_self
    have h2 := Tr.sizeAll_map f n l fun b hb => h b (List.mem_cons_of_mem _ hb)
    have e : (l.length + 1) * n = l.length * n + n := by rw [Nat.add_mul, Nat.one_mul]
    simp only [List.map_cons, Tr.sizeAll, List.length_cons]
    omega
theorem Tr.depthAll_map {α : Type} (f : α → Tr) (n : Nat) : ∀ (l : List α), (∀ a ∈ l, (f a).depth ≤ n) → Tr.depthAll (l.map f) ≤ n
  | [], _ => by simp [Tr.depthAll]
  | a :: l, h => by
    have h1 := h a List.mem_cons_self
    have h2 := Tr.depthAll_map f n l fun b hb => h b (List.mem_cons_of_mem _ hb)
    simp only [List.map_cons, Tr.depthAll]
    omega
theorem trTalks_size (ts : List (Int × Int)) (h : ts.length ≤ 8) : (trTalks ts).size ≤ 25 := by
  have := Tr.sizeAll_map trTalk 3 ts fun t _ => by simp [trTalk, Tr.size, Tr.sizeAll]
  simp only [trTalks, Tr.size]
  omega
theorem trHall_size {ms : List Tk} (h : HallOk ms) : (trHall ms).size ≤ 600 := by
  have := Tr.sizeAll_map trTk 53 ms fun m hm => by
    have h1 := trTalks_size m.sch.pre (h.all m hm).sc.lp
    have h2 := trTalks_size m.sch.cyc (h.all m hm).sc.lc
    simp only [trTk, Tr.size, Tr.sizeAll]
    omega
  have := h.len
  simp only [trHall, Tr.size]
  omega
theorem trTalks_depth (ts : List (Int × Int)) : (trTalks ts).depth ≤ 2 := by
  have := Tr.depthAll_map trTalk 1 ts fun t _ => by simp [trTalk, Tr.depth, Tr.depthAll]
  simp only [trTalks, Tr.depth]
  omega
theorem trHall_depth (ms : List Tk) : (trHall ms).depth ≤ 4 := by
  have := Tr.depthAll_map trTk 3 ms fun m hm => by
    have h1 := trTalks_depth m.sch.pre
    have h2 := trTalks_depth m.sch.cyc
    simp only [trTk, Tr.depth, Tr.depthAll]
    omega
  simp only [trHall, Tr.depth]
  omega
/-! ### dressed -/
structure DressAsk where
  a : Addr
  v : V
  t : Tr
  b : Nat
  S : Hp
def dressPost (K : PySem.W.Frag) (d : Nat) (x : DressAsk) (H : Hp) (Q : VK) : Prop := x.t.depth < d ∧ x.t.size < 1000000 ∧ Ex x.S H ∧ x.S x.a = none ∧ SpringAt H x.a (x.b + x.t.size) ∧ TrAt K x.S x.v x.t ∧
  ∀ v H', ExM [x.a] H H' → SpringAt H' x.a x.b → TrAt K (ext x.S H H') v x.t → Q v H'
def sp_dressed (K : PySem.W.Frag) (d : Nat) : Sp := Spec (α := DressAsk) (fun x => [.ref x.a, x.v]) (dressPost K d)
theorem use_dressed {d : Nat} {a : Addr} {v : V} {t : Tr} {S H : Hp} {Q : VK} (b : Nat) (hd : t.depth < d) (hz : t.size < 1000000) (hS : Ex S H) (nS : S a = none) (sp : SpringAt H a (b + t.size)) (ht : TrAt K S v t)
    (k : ∀ v H', ExM [a] H H' → SpringAt H' a b → TrAt K (ext S H H') v t → Q v H') : ∃ x : DressAsk, [V.ref a, v] = [V.ref x.a, x.v] ∧ dressPost K d x H Q := ⟨⟨a, v, t, b, S⟩, rfl, hd, hz, hS, nS, sp, ht, k⟩
theorem kit_seq_int : PySem.W.kitAny K (.type "int") [.type "list", .type "tuple"] = some false :=
  kitAny_cons (b := false) (kit_ty (by decide +kernel)) (fun _ => kitAny_cons (b := false) (kit_ty (by decide +kernel)) (fun _ => rfl) fun q => nomatch q) fun q => nomatch q
theorem kit_seq_str : PySem.W.kitAny K (.type "str") [.type "list", .type "tuple"] = some false :=
  kitAny_cons (b := false) (kit_ty (by decide +kernel)) (fun _ => kitAny_cons (b := false) (kit_ty (by decide +kernel)) (fun _ => rfl) fun q => nomatch q) fun q => nomatch q
end HR
/-! the simulation of the laws: rows of cells -/
namespace HR
open PySem L2
theorem HallOk.ok {ms : List Tk} (h : HallOk ms) : AllOk ms := fun m hm => (h.all m hm).sc
theorem HallOk.rk {ms : List Tk} (h : HallOk ms) : RanksOk ms := fun m hm => ⟨(h.all m hm).lo, (h.all m hm).hi⟩
/-- xs[lo:hi] of a list or a tuple, not the whole of it -/
def rSlU (K : PySem.W.Frag) : V → Option Int → Option Int → Hp → VK → Prop := fun x lo hi H Q => ∃ a xs, x = .ref a ∧ Sq K H a xs ∧ ¬ (HT.sIx xs.length 0 lo = 0 ∧ HT.sIx xs.length xs.length hi = xs.length) ∧
  ∀ p o, H p = none → (o = .lst (cutV xs lo hi) ∨ o = .tup (cutV xs lo hi)) → Q (.ref p) (upd H p o)
theorem sl_any {X : Cx} : SlR X (rSlU X.K) := by
  intro pins s σ H x v vl vu lo hi sl Q I rx hs pl pu h
  obtain ⟨a, xs, rfl, hx | hx, hw, q⟩ := h
  · exact sl_list pins s σ H _ v vl vu lo hi sl Q I rx hs pl pu ⟨a, xs, rfl, hx, fun p np => q p _ np (.inl rfl)⟩
  · exact sl_tup pins s σ H _ v vl vu lo hi sl Q I rx hs pl pu ⟨a, xs, rfl, hx, hw, fun p np => q p _ np (.inr rfl)⟩
theorem ksl_any {X : Cx} (K : PySem.W.Frag) (hK : X.K = K) : SlR X (rSlU K) := by subst hK; exact sl_any
theorem ksortT {X : Cx} (K : PySem.W.Frag) (hK : X.K = K) {d : Nat} {B : Int} (hd : 1 ≤ d) : CallR X (.builtin "sorted") (rSortU K d B) := by subst hK; exact cr_sortT hd
/-! ### the talk with an index -/
structure NthAsk where
  v : V
  m : Tk
  i : Nat
  S : Hp
def sp_nth (K : PySem.W.Frag) : Sp := Spec (α := NthAsk) (fun x => [x.v, .int x.i]) fun x H Q => Ex x.S H ∧ TkAt K x.S x.v x.m ∧ x.m.sch.Ok ∧ ∀ w H', Ex H H' → TalkAt K x.S w (x.m.sch.nth x.i) → Q w H'
theorem use_nth {K : PySem.W.Frag} {v : V} {m : Tk} {i : Nat} {S H : Hp} {Q : VK} (hS : Ex S H) (hv : TkAt K S v m) (ok : m.sch.Ok) (k : ∀ w H', Ex H H' → TalkAt K S w (m.sch.nth i) → Q w H') :
    ∃ x : NthAsk, [v, V.int i] = [x.v, V.int x.i] ∧ (Ex x.S H ∧ TkAt K x.S x.v x.m ∧ x.m.sch.Ok ∧ ∀ w H', Ex H H' → TalkAt K x.S w (x.m.sch.nth x.i) → Q w H') := ⟨⟨v, m, i, S⟩, rfl, hS, hv, ok, k⟩
/-! ### rows -/
def stW (x : Cell) : Str := if 0 < x.c then "silent" else "ready"
def lfW (m : Tk) (x : Cell) : Int := if 0 < x.c then x.c else (m.sch.nth x.k).2 - x.s
def rowV (m : Tk) (x : Cell) : List V := [.str (stW x), .int x.k, .int (lfW m x), .int x.s]
structure NowAt (Hc : Hp) (D : Addr) (as : List Addr) (ms : List Tk) (f : Nat → Tk → List V) : Prop where
  lst : Hc D = some (.lst (as.map V.ref))
  len : as.length = ms.length
  cel : ∀ (j : Nat) m a, ms[j]? = some m → as[j]? = some a → Hc a = some (.lst (f j m))
  inj : ∀ (i j : Nat) a, as[i]? = some a → as[j]? = some a → i = j
  nd : D ∉ as
theorem NowAt.congr {Hc : Hp} {D : Addr} {as : List Addr} {ms : List Tk} {f g : Nat → Tk → List V} (h : NowAt Hc D as ms f) (e : ∀ (j : Nat) m, ms[j]? = some m → f j m = g j m) : NowAt Hc D as ms g :=
  ⟨h.lst, h.len, fun j m a h1 h2 => by rw [← e j m h1]; exact h.cel j m a h1 h2, h.inj, h.nd⟩
theorem NowAt.ex {Hc Hd : Hp} {D : Addr} {as : List Addr} {ms : List Tk} {f : Nat → Tk → List V} (h : NowAt Hc D as ms f) (e : Ex Hc Hd) : NowAt Hd D as ms f :=
  ⟨e _ _ h.lst, h.len, fun j m a h1 h2 => e _ _ (h.cel j m a h1 h2), h.inj, h.nd⟩
theorem NowAt.at_ {Hc : Hp} {D : Addr} {as : List Addr} {ms : List Tk} {f : Nat → Tk → List V} (h : NowAt Hc D as ms f) {j : Nat} {m : Tk} (hm : ms[j]? = some m) : ∃ a, as[j]? = some a ∧ Hc a = some (.lst (f j m)) := by
  have hj := (List.getElem?_eq_some_iff.mp hm).1
  have hj' : j < as.length := by rw [h.len]; exact hj
  have e : as[j]? = some as[j] := List.getElem?_eq_getElem hj'
  exact ⟨_, e, h.cel j m _ hm e⟩
theorem NowAt.tk {Hc : Hp} {D : Addr} {as : List Addr} {ms : List Tk} {f : Nat → Tk → List V} (h : NowAt Hc D as ms f) {j : Nat} {a : Addr} (ha : as[j]? = some a) : ∃ m, ms[j]? = some m ∧ Hc a = some (.lst (f j m)) := by
  have hj := (List.getElem?_eq_some_iff.mp ha).1
  have hj' : j < ms.length := by rw [← h.len]; exact hj
  have e : ms[j]? = some ms[j] := List.getElem?_eq_getElem hj'
  exact ⟨_, e, h.cel j _ a e ha⟩
/-- all the cells stand -/
theorem NowAt.all {Hc : Hp} {D : Addr} {as : List Addr} {ms : List Tk} {f : Nat → Tk → List V} (h : NowAt Hc D as ms f) : ∀ l ∈ D :: as, Hc l ≠ none := fun l hl => by
  rcases List.mem_cons.mp hl with e | hl
  · rw [e, h.lst]; exact fun q => nomatch q
  · obtain ⟨j, hj⟩ := List.getElem?_of_mem hl
    obtain ⟨m, _, e⟩ := h.tk hj
    rw [e]; exact fun q => nomatch q
theorem NowAt.other {Hc : Hp} {D l : Addr} {o : HO} {as : List Addr} {ms : List Tk} {f : Nat → Tk → List V} (h : NowAt Hc D as ms f) (hl : l ∉ D :: as) : NowAt (upd Hc l o) D as ms f :=
  ⟨by rw [upd_ne (fun z => hl (by rw [← z]; exact List.mem_cons_self))]; exact h.lst, h.len, fun j m a h1 h2 => by
    rw [upd_ne (fun z => hl (by rw [← z]; exact List.mem_cons_of_mem _ (List.mem_of_getElem? h2)))]; exact h.cel j m a h1 h2, h.inj, h.nd⟩
/-- a cell is changed in place -/
theorem NowAt.put {Hc : Hp} {D a : Addr} {as : List Addr} {ms : List Tk} {f : Nat → Tk → List V} (h : NowAt Hc D as ms f) {j : Nat} (ha : as[j]? = some a) (r : List V) : NowAt (upd Hc a (.lst r)) D as ms (fun i m => if i = j then r else f i m) :=
  ⟨by rw [upd_ne (fun z => h.nd (by rw [z]; exact List.mem_of_getElem? ha))]; exact h.lst, h.len, fun i m b h1 h2 => by
    by_cases e : i = j
    · subst e
      rw [ha] at h2; cases h2
      rw [upd_same, if_pos rfl]
    · rw [upd_ne (fun z => e (by rw [z] at h2; exact h.inj i j a h2 ha)), if_neg e]
      exact h.cel i m b h1 h2, h.inj, h.nd⟩
/-- a new cell stands instead -/
theorem NowAt.swap {Hc : Hp} {D p : Addr} {as : List Addr} {ms : List Tk} {f : Nat → Tk → List V} (h : NowAt Hc D as ms f) {j : Nat} (hj : j < as.length) {r : List V} (hp : Hc p = some (.lst r)) (np : p ∉ D :: as) :
    NowAt (upd Hc D (.lst ((as.map V.ref).set j (.ref p)))) D (as.set j p) ms (fun i m => if i = j then r else f i m) := by
  have pD : p ≠ D := fun z => np (by rw [z]; exact List.mem_cons_self)
  refine ⟨by rw [upd_same, List.map_set], by rw [List.length_set]; exact h.len, fun i m b h1 h2 => ?_, fun i k b h1 h2 => ?_, fun z => ?_⟩
  · by_cases e : i = j
    · subst e
      rw [List.getElem?_set_self hj] at h2; cases h2
      rw [upd_ne pD, if_pos rfl]; exact hp
    · rw [List.getElem?_set_ne (Ne.symm e)] at h2
      rw [upd_ne (fun z => h.nd (by rw [← z]; exact List.mem_of_getElem? h2)), if_neg e]
      exact h.cel i m b h1 h2
  · by_cases e : i = j
    · subst e
      rw [List.getElem?_set_self hj] at h1; cases h1
      by_cases e2 : k = i
      · exact e2.symm
      · rw [List.getElem?_set_ne (Ne.symm e2)] at h2
        exact absurd (List.mem_cons_of_mem _ (List.mem_of_getElem? h2)) np
    · rw [List.getElem?_set_ne (Ne.symm e)] at h1
      by_cases e2 : k = j
      · subst e2
        rw [List.getElem?_set_self hj] at h2; cases h2
        exact absurd (List.mem_cons_of_mem _ (List.mem_of_getElem? h1)) np
      · rw [List.getElem?_set_ne (Ne.symm e2)] at h2
        exact h.inj i k b h1 h2
  · rcases List.mem_or_eq_of_mem_set z with q | q
    · exact h.nd q
    · exact pD q.symm
/-! ### what a run returns -/
def bestV : Option Nat → V
  | none => .non
  | some j => .int j
def nmV (ms : List Tk) : Option Nat → V
  | none => .non
  | some j => match ms[j]? with
    | none => .non
    | some m => .str m.name
def stV (ms : List Tk) (T : Int) (b : Option Nat) (j : Nat) (m : Tk) (x : Cell) : List V := [.str (if b = some j then "speaking" else stW x), .int x.k, .int (lfW m x)]
def StatesAt (K : PySem.W.Frag) (H : Hp) (st : Addr) (ms : List Tk) (T : Int) (b : Option Nat) (cs : Nat → Tk → Cell) : Prop :=
  ∃ ys, SqL K H st ys ∧ ys.length = ms.length ∧ ∀ (j : Nat) m, ms[j]? = some m → ∃ q, ys[j]? = some (.ref q) ∧ SqT K H q (stV ms T b j m (cs j m))
def RowAt (K : PySem.W.Frag) (H : Hp) (ms : List Tk) (T : Int) (v : V) : Prop := ∃ p st b, v = .ref p ∧ SqT K H p [nmV ms b, .ref st] ∧ IsSpk ms T b ∧ StatesAt K H st ms T b (cel ms T)
def RowsAt (K : PySem.W.Frag) (H : Hp) (ms : List Tk) (n : Nat) (v : V) : Prop := ∃ fd xs, v = .ref fd ∧ SqL K H fd xs ∧ xs.length = n ∧ ∀ (t : Nat) y, xs[t]? = some y → RowAt K H ms t y
theorem StatesAt.ex {K : PySem.W.Frag} {H H' : Hp} {st : Addr} {ms : List Tk} {T : Int} {b : Option Nat} {cs : Nat → Tk → Cell} (e : Ex H H') (h : StatesAt K H st ms T b cs) : StatesAt K H' st ms T b cs := by
  obtain ⟨ys, h1, h2, h3⟩ := h
  exact ⟨ys, Evl.ex_l e h1, h2, fun j m hm => by obtain ⟨q, e1, e2⟩ := h3 j m hm; exact ⟨q, e1, Evl.ex_t e e2⟩⟩
theorem RowAt.ex {K : PySem.W.Frag} {H H' : Hp} {ms : List Tk} {T : Int} {v : V} (e : Ex H H') (h : RowAt K H ms T v) : RowAt K H' ms T v := by
  obtain ⟨p, st, b, h1, h2, h3, h4⟩ := h
  exact ⟨p, st, b, h1, Evl.ex_t e h2, h3, h4.ex e⟩
structure RunAsk where
  v : V
  n : Nat
  ms : List Tk
  S : Hp
def runPost (K : PySem.W.Frag) (x : RunAsk) (H : Hp) (Q : VK) : Prop := Ex x.S H ∧ HallV K x.S x.v x.ms ∧ HallOk x.ms ∧ x.n ≤ 10000 ∧ ∀ v H', Ex H H' → RowsAt K (ext x.S H H') x.ms x.n v → Q v H'
def sp_run (K : PySem.W.Frag) : Sp := Spec (α := RunAsk) (fun x => [x.v, .int x.n]) (runPost K)
theorem use_run {K : PySem.W.Frag} {v : V} {n : Nat} {ms : List Tk} {S H : Hp} {Q : VK} (hS : Ex S H) (hv : HallV K S v ms) (ok : HallOk ms) (hn : n ≤ 10000) (k : ∀ v H', Ex H H' → RowsAt K (ext S H H') ms n v → Q v H') :
    ∃ x : RunAsk, [v, V.int n] = [x.v, V.int x.n] ∧ runPost K x H Q := ⟨⟨v, n, ms, S⟩, rfl, hS, hv, ok, hn, k⟩
/-! ### the first in order -/
def flag (s : Int) : Int := if s = 0 then 1 else 0
def TripAt (H : Hp) (x : V) (r f j : Int) : Prop := ∃ t, x = .ref t ∧ H t = some (.tup [.int r, .int f, .int j])
theorem TripAt.ex {H H' : Hp} {x : V} {r f j : Int} (e : Ex H H') (h : TripAt H x r f j) : TripAt H' x r f j := by
  obtain ⟨t, e1, h⟩ := h; exact ⟨t, e1, e _ _ h⟩
theorem TripAt.i {K : PySem.W.Frag} {H : Hp} {x : V} {r f j : Int} (h : TripAt H x r f j) : TupI K H x [r, f, j] := by
  obtain ⟨t, e, h⟩ := h
  exact ⟨t, e, SqT.of h⟩
/-- the ready ones, as they stand -/
structure ReadyAt (H : Hp) (ms : List Tk) (cs : Nat → Tk → Cell) (xs : List V) : Prop where
  a : ∀ x ∈ xs, ∃ (j : Nat) (m : Tk), ms[j]? = some m ∧ (cs j m).c = 0 ∧ TripAt H x m.rank (flag (cs j m).s) (j : Int)
  b : ∀ (j : Nat) (m : Tk), ms[j]? = some m → (cs j m).c = 0 → ∃ x ∈ xs, TripAt H x m.rank (flag (cs j m).s) (j : Int)
theorem flag_in (s : Int) : 0 ≤ flag s ∧ flag s ≤ 1 := by unfold flag; split <;> omega
theorem trip_bd {ms : List Tk} (ok : HallOk ms) {j : Nat} {m : Tk} (hm : ms[j]? = some m) (s : Int) : TS.Bd 16 [m.rank, flag s, (j : Int)] := fun x hx => by
  have := ok.rk m (List.mem_of_getElem? hm)
  have := (List.getElem?_eq_some_iff.mp hm).1
  have := ok.len
  have := flag_in s
  rcases List.mem_cons.mp hx with e | hx
  · omega
  rcases List.mem_cons.mp hx with e | hx
  · omega
  · have := List.mem_singleton.mp hx
    omega
theorem ready_none {H : Hp} {ms : List Tk} {cs : Nat → Tk → Cell} {xs : List V} (r : ReadyAt H ms cs xs) (e : xs = []) : IsBest ms cs none := fun i m hm hc => by
  obtain ⟨x, hx, _⟩ := r.b i m hm hc
  rw [e] at hx; cases hx
theorem ready_some {K : PySem.W.Frag} {H : Hp} {ms : List Tk} {cs : Nat → Tk → Cell} {xs ys : List V} (ok : HallOk ms) (r : ReadyAt H ms cs xs) (pm : ys.Perm xs)
    (pw : ys.Pairwise fun x y => ∀ n m, TupI K H x n → TupI K H y m → TS.code 16 n ≤ TS.code 16 m) {y : V} {rest : List V} (e : ys = y :: rest) : ∃ (j : Nat) (m : Tk), ms[j]? = some m ∧ TripAt H y m.rank (flag (cs j m).s) (j : Int) ∧ IsBest ms cs (some j) := by
  subst e
  obtain ⟨j, m, hm, hc, ht⟩ := r.a y (pm.mem_iff.mp List.mem_cons_self)
  refine ⟨j, m, hm, ht, m, hm, hc, fun i m' hm' hc' => ?_⟩
  obtain ⟨x, hx, ht'⟩ := r.b i m' hm' hc'
  have b1 := trip_bd ok hm (cs j m).s
  have b2 := trip_bd ok hm' (cs i m').s
  have cle : TS.code 16 [m.rank, flag (cs j m).s, (j : Int)] ≤ TS.code 16 [m'.rank, flag (cs i m').s, (i : Int)] := by
    rcases List.mem_cons.mp (pm.mem_iff.mpr hx) with z | z
    · subst z
      obtain ⟨t, e1, q1⟩ := ht
      obtain ⟨t', e2, q2⟩ := ht'
      rw [e1] at e2; cases e2
      rw [q1] at q2
      injection q2 with q2
      injection q2 with q2
      injection q2 with a1 q2
      injection q2 with a2 q2
      injection q2 with a3 q2
      injection a1 with a1
      injection a2 with a2
      injection a3 with a3
      rw [a1, a2, a3]
      exact Int.le_refl _
    · exact (List.pairwise_cons.mp pw).1 x z _ _ ht.i ht'.i
  have f1 := flag_in (cs j m).s
  have f2 := flag_in (cs i m').s
  have r1 := ok.rk m (List.mem_of_getElem? hm)
  have r2 := ok.rk m' (List.mem_of_getElem? hm')
  have l1 := (List.getElem?_eq_some_iff.mp hm).1
  have l2 := (List.getElem?_eq_some_iff.mp hm').1
  have l3 := ok.len
  simp only [TS.code, List.length_cons, List.length_nil] at cle
  have g1 : flag (cs j m).s = 1 ↔ (cs j m).s = 0 := by unfold flag; split <;> simp_all
  have g2 : flag (cs i m').s = 1 ↔ (cs i m').s = 0 := by unfold flag; split <;> simp_all
  unfold keyLe
  generalize (cs j m).s = s1 at *
  generalize (cs i m').s = s2 at *
  generalize flag s1 = x1 at *
  generalize flag s2 = x2 at *
  omega
/-- for k, x in enumerate(xs) -/
theorem forE {K : PySem.W.Frag} {i1 i2 : Nat} {tb : TS} {D : Ends} {σ : St} {H1 : Hp} {a : Addr} {xs : List V} (Pv : Nat → St → Hp → Prop) (h0 : Pv 0 σ H1) (hG : ∀ i σ H, i ≤ xs.length → Pv i σ H → SqL K H a xs)
    (turn : ∀ (i : Nat) x σ H T, xs[i]? = some x → Pv i σ H → H T = none → tb { D with nx := Pv (i + 1), ct := Pv (i + 1), bk := D.nx } ((σ.set i1 (some (.int (i : Nat)))).set i2 (some x)) (upd H T (.tup [.int (i : Nat), x])))
    (hd : ∀ σ H, Pv xs.length σ H → D.nx σ H) :
    ∃ W : Nat → Nat → St → Hp → Prop, (∃ m, W 0 m σ H1) ∧ ∀ i m σ H, W i m σ H →
      ((Ite K a).stop i H ∧ D.nx σ H) ∨ ((Ite K a).go i H ∧ ∃ N : St → Hp → Prop, (∀ σ' H', N σ' H' → ∃ m', m' < m ∧ W (i + 1) m' σ' H') ∧ ∀ x H', (Ite K a).yld i H x H' → gTup K 2 (gCons (gName i1) (gCons (gName i2) gNil)) x σ H' fun σ2 H2 => tb { D with nx := N, ct := N, bk := D.nx } σ2 H2) :=
  for_it walk_enum Pv h0 hG (fun i v σ H H' hi p y => by
    obtain ⟨T, x, z, rfl, nT, rfl, hx, hz⟩ := y
    cases hx
    exact ⟨T, _, rfl, SqT.of upd_same, rfl, _, _, rfl, _, _, rfl, rfl, turn i z σ H T hz p nT⟩) hd
/-- the ready ones among the first -/
structure ReadyTo (H : Hp) (ms : List Tk) (cs : Nat → Tk → Cell) (n : Nat) (xs : List V) : Prop where
  a : ∀ x ∈ xs, ∃ (j : Nat) (m : Tk), ms[j]? = some m ∧ (cs j m).c = 0 ∧ TripAt H x m.rank (flag (cs j m).s) (j : Int)
  b : ∀ (j : Nat) (m : Tk), j < n → ms[j]? = some m → (cs j m).c = 0 → ∃ x ∈ xs, TripAt H x m.rank (flag (cs j m).s) (j : Int)
  l : xs.length ≤ n
theorem ReadyTo.ex {H H' : Hp} {ms : List Tk} {cs : Nat → Tk → Cell} {n : Nat} {xs : List V} (e : Ex H H') (h : ReadyTo H ms cs n xs) : ReadyTo H' ms cs n xs :=
  ⟨fun x hx => by obtain ⟨j, m, h1, h2, h3⟩ := h.a x hx; exact ⟨j, m, h1, h2, h3.ex e⟩, fun j m h0 h1 h2 => by obtain ⟨x, hx, h3⟩ := h.b j m h0 h1 h2; exact ⟨x, hx, h3.ex e⟩, h.l⟩
theorem ReadyTo.all {H : Hp} {ms : List Tk} {cs : Nat → Tk → Cell} {xs : List V} (h : ReadyTo H ms cs ms.length xs) : ReadyAt H ms cs xs :=
  ⟨h.a, fun j m h1 h2 => h.b j m (List.getElem?_eq_some_iff.mp h1).1 h1 h2⟩
theorem ReadyTo.add {H H' : Hp} {ms : List Tk} {cs : Nat → Tk → Cell} {n : Nat} {xs : List V} (h : ReadyTo H ms cs n xs) (e : Ex H H') {m : Tk} {x : V} (hm : ms[n]? = some m) (hc : (cs n m).c = 0) (hx : TripAt H' x m.rank (flag (cs n m).s) (n : Int)) : ReadyTo H' ms cs (n + 1) (xs ++ [x]) := by
  have h' := h.ex e
  refine ⟨fun y hy => ?_, fun j u h0 h1 h2 => ?_, by have := h.l; rw [List.length_append, List.length_singleton]; omega⟩
  · rcases List.mem_append.mp hy with hy | hy
    · exact h'.a y hy
    · rw [List.mem_singleton.mp hy]; exact ⟨n, m, hm, hc, hx⟩
  · by_cases z : j < n
    · obtain ⟨y, hy, ty⟩ := h'.b j u z h1 h2
      exact ⟨y, List.mem_append_left _ hy, ty⟩
    · have : j = n := by omega
      subst this
      rw [hm] at h1; cases h1
      exact ⟨x, List.mem_append_right _ List.mem_cons_self, hx⟩
theorem ReadyTo.skip {H : Hp} {ms : List Tk} {cs : Nat → Tk → Cell} {n : Nat} {xs : List V} (h : ReadyTo H ms cs n xs) {m : Tk} (hm : ms[n]? = some m) (hc : (cs n m).c ≠ 0) : ReadyTo H ms cs (n + 1) xs :=
  ⟨h.a, fun j u h0 h1 h2 => by
    by_cases z : j < n
    · exact h.b j u z h1 h2
    · have : j = n := by omega
      subst this
      rw [hm] at h1; cases h1
      exact absurd h2 hc, by have := h.l; omega⟩
theorem trips_data {K : PySem.W.Frag} {H : Hp} : ∀ {ys : List V}, (∀ y ∈ ys, ∃ r f j, TripAt H y r f j) → ∃ ds, DpAll K H ys ds ∧ ds.length = ys.length ∧ PyData.canLayAll0 ds = true ∧ PyData.depthAll ds ≤ 1
  | [], _ => ⟨[], .nil, rfl, rfl, by simp [PyData.depthAll]⟩
  | y :: ys, h => by
    obtain ⟨ds, h1, h2, h3, h4⟩ := trips_data (K := K) fun z hz => h z (List.mem_cons_of_mem _ hz)
    obtain ⟨r, f, j, t, rfl, ht⟩ := h y List.mem_cons_self
    refine ⟨.tuple [.int r, .int f, .int j] :: ds, .cons (.tup (SqT.of ht) (.cons (.int _) (.cons (.int _) (.cons (.int _) .nil)))) h1, by simp [h2], ?_, ?_⟩
    · simp [PyData.canLayAll0, PyData.canLay0, h3]
    · simp only [PyData.depthAll, PyData.depth]; omega
/-- order != [] -/
theorem use_neNil {K : PySem.W.Frag} {H : Hp} {p q : Addr} {ys : List V} {Q : VK} (hp : H p = some (.lst ys)) (hq : H q = some (.lst [])) (h : ∀ y ∈ ys, ∃ r f j, TripAt H y r f j) (k : Q (.bl (!ys.isEmpty)) H) : rNeD K (.ref p) (.ref q) H Q := by
  obtain ⟨ds, h1, h2, h3, h4⟩ := trips_data (K := K) h
  refine ⟨.list ds, .list [], .lst (SqL.of hp) h1, .lst (SqL.of hq) .nil, ?_, by decide, ?_⟩
  · refine Bool.and_eq_true_iff.mpr ⟨by rw [PyData.canLay0]; exact h3, decide_eq_true ?_⟩
    rw [PyData.depth]
    omega
  · have : PyData.eqv (.list ds) (.list []) = ys.isEmpty := by
      cases ys with
      | nil =>
        have : ds = [] := List.eq_nil_of_length_eq_zero h2
        subst this
        simp [PyData.eqv, PyData.eqvAll]
      | cons y ys =>
        cases ds with
        | nil => simp at h2
        | cons d ds => simp [PyData.eqv, PyData.eqvAll]
    rw [this]
    exact k
/-- what a cell of the formula looks like -/
theorem cel_shape {ms : List Tk} (h : AllOk ms) {T : Int} {j : Nat} {m : Tk} (hm : ms[j]? = some m) : ((cel ms T j m).c = 0 ∧ 0 ≤ (cel ms T j m).s) ∨ (0 < (cel ms T j m).c ∧ (cel ms T j m).s = 0) := by
  by_cases e : m.sch.has (qOf ms T m) = true ∧ oOf ms T m < off ms m.rank (qOf ms T m) j + m.sch.run (qOf ms T m)
  · refine .inl ?_
    unfold cel cellOf
    rw [if_pos e]
    exact ⟨rfl, by show 0 ≤ max 0 _; omega⟩
  · refine .inr ⟨cel_silent h hm e, ?_⟩
    unfold cel cellOf
    rw [if_neg e]
/-- order[0][2] if order != [] else None -/
theorem best_val {K : PySem.W.Frag} {ms : List Tk} {T : Nat} {i : Nat} {σ : St} {H1 H2 : Hp} {p : Addr} {os ys : List V} (ok : HallOk ms) (hσ : σ[i]? = some (some (.ref p))) (hp : H2 p = some (.lst ys)) (e12 : Ex H1 H2) (rd : ReadyAt H1 ms (cel ms (T : Int)) os) (pm : ys.Perm os)
    (pw : ys.Pairwise fun x y => ∀ n m, TupI K H1 x n → TupI K H1 y m → TS.code 16 n ≤ TS.code 16 m) :
    ∃ b, IsSpk ms (T : Int) b ∧ ∀ Q' : VK, (∀ e, H2 e = none → Q' (bestV b) (upd H2 e (.lst []))) → tIf (tTest (tOp (rNeD K) (tVar i) (tLst tNil))) (tOp (rIxA K) (tOp (rIxA K) (tVar i) (tC (.int 0))) (tC (.int 2))) (tC .non) σ H2 Q' := by
  have trips : ∀ y ∈ ys, ∃ r f j, TripAt H2 y r f j := fun y hy => by
    obtain ⟨j, m, _, _, ht⟩ := rd.a y (pm.mem_iff.mp hy)
    exact ⟨_, _, _, ht.ex e12⟩
  cases ys with
  | nil =>
    refine ⟨none, best_spk ok.ok ok.rk (by omega) (ready_none rd (List.nil_perm.mp pm)), fun Q' q => ?_⟩
    refine ⟨_, hσ, Nat.zero_le _, fun e ne => use_neNil (ys := []) (by rw [upd_ne (fun z => by rw [z, ne] at hp; cases hp)]; exact hp) upd_same (fun y h => nomatch h) ⟨_, rfl, iteF (q e ne)⟩⟩
  | cons y rest =>
    obtain ⟨j, m, hm, ht, ib⟩ := ready_some ok rd pm pw rfl
    refine ⟨some j, best_spk ok.ok ok.rk (by omega) ib, fun Q' q => ?_⟩
    refine ⟨_, hσ, Nat.zero_le _, fun e ne => ?_⟩
    have hp' : (upd H2 e (.lst [])) p = some (.lst (y :: rest)) := by rw [upd_ne (fun z => by rw [z, ne] at hp; cases hp)]; exact hp
    refine use_neNil hp' upd_same (fun z hz => by obtain ⟨r, f, k, h⟩ := trips z hz; exact ⟨r, f, k, h.ex (Ex.new ne)⟩) ⟨_, rfl, iteT ?_⟩
    obtain ⟨t, rfl, h⟩ := (ht.ex e12).ex (Ex.new (o := .lst []) ne)
    exact ⟨_, hσ, p, _, 0, _, rfl, rfl, Sq.l hp', atI_nat (j := 0) rfl, t, _, 2, .int j, rfl, rfl, Sq.t h, rfl, q e ne⟩
theorem dec_best (i : Nat) (b : Option Nat) : decide (V.int (i : Int) = bestV b) = decide (b = some i) := by
  cases b with
  | none => rfl
  | some j =>
    rw [Bool.eq_iff_iff, decide_eq_true_eq, decide_eq_true_eq]
    constructor
    · intro h
      injection h with h
      rw [show j = i by omega]
    · intro h
      injection h with h
      rw [h]; rfl
theorem scal_best (i : Int) (b : Option Nat) : scal (.int i) (bestV b) = true := by cases b <;> rfl
theorem spk_at {ms : List Tk} {T : Int} {j : Nat} (h : IsSpk ms T (some j)) : ∃ m, ms[j]? = some m := by
  obtain ⟨m, k, hm, _⟩ := h
  exact ⟨m, hm⟩
/-- best is None or the best one's rank is higher -/
theorem cond_val {K : PySem.W.Frag} {ms : List Tk} {T : Int} {b : Option Nat} {i i0 i3 i8 : Nat} {m : Tk} {σ : St} {S H : Hp} {a : Addr} {xs : List V} (h0 : σ[i0]? = some (some (.ref a))) (h3 : σ[i3]? = some (some (.int (i : Nat)))) (h8 : σ[i8]? = some (some (bestV b))) (hs : SqL K H a xs)
    (hp : PySem.Paired (TkAt K S) xs ms) (e : Ex S H) (hm : ms[i]? = some m) (hr : RanksOk ms) (sp : IsSpk ms T b) (Q' : Bool → Hp → Prop) (q : Q' (decide (m.rank < rkAt ms b)) H) :
    tOr (tTest (tOp (fun x y H Q => y = V.non ∧ Q (V.bl (decide (x = V.non))) H) (tVar i8) (tC .non))) (tTest (tOp (rI0 fun i j => V.bl (decide (j < i))) (tOp (rIxA K) (tOp (rIxA K) (tVar i0) (tVar i8)) (tC (.int 1))) (tOp (rIxA K) (tOp (rIxA K) (tVar i0) (tVar i3)) (tC (.int 1))))) σ H Q' := by
  cases b with
  | none =>
    refine ⟨_, h8, rfl, _, rfl, ?_⟩
    rw [show decide (bestV none = V.non) = true from rfl]
    refine iteT ?_
    have := hr m (List.mem_of_getElem? hm)
    rw [show decide (m.rank < rkAt ms none) = true from decide_eq_true (by show m.rank < 11; omega)] at q
    exact q
  | some j =>
    obtain ⟨m', hm'⟩ := spk_at sp
    obtain ⟨x, hx, ta, p1, p2, rfl, htk, _, _⟩ := Paired.get2 _ hp hm'
    obtain ⟨x', hx', ta', p1', p2', rfl, htk', _, _⟩ := Paired.get2 _ hp hm
    refine ⟨_, h8, rfl, _, rfl, ?_⟩
    rw [show decide (bestV (some j) = V.non) = false from rfl]
    refine iteF ⟨_, h0, _, h8, a, xs, j, _, rfl, rfl, .inl hs, atI_nat hx, ta, _, 1, _, rfl, rfl, htk.ex e, rfl, _, h0, _, h3, a, xs, i, _, rfl, rfl, .inl hs, atI_nat hx', ta', _, 1, _, rfl, rfl, htk'.ex e, rfl, _, _, rfl, rfl, _, rfl, ?_⟩
    rw [show rkAt ms (some j) = m'.rank by simp only [rkAt, hm']] at q
    exact q
/-- None if best is None else the best one's name -/
theorem name_val {K : PySem.W.Frag} {ms : List Tk} {T : Int} {b : Option Nat} {i0 i8 : Nat} {σ : St} {S H : Hp} {a : Addr} {xs : List V} (h0 : σ[i0]? = some (some (.ref a))) (h8 : σ[i8]? = some (some (bestV b))) (hs : SqL K H a xs)
    (hp : PySem.Paired (TkAt K S) xs ms) (e : Ex S H) (sp : IsSpk ms T b) (Q' : VK) (q : Q' (nmV ms b) H) :
    tIf (tTest (tOp (fun x y H Q => y = V.non ∧ Q (V.bl (decide (x = V.non))) H) (tVar i8) (tC .non))) (tC .non) (tOp (rIxA K) (tOp (rIxA K) (tVar i0) (tVar i8)) (tC (.int 0))) σ H Q' := by
  cases b with
  | none =>
    refine ⟨_, h8, rfl, _, rfl, ?_⟩
    rw [show decide (bestV none = V.non) = true from rfl]
    exact iteT q
  | some j =>
    obtain ⟨m', hm'⟩ := spk_at sp
    obtain ⟨x, hx, ta, p1, p2, rfl, htk, _, _⟩ := Paired.get2 _ hp hm'
    refine ⟨_, h8, rfl, _, rfl, ?_⟩
    rw [show decide (bestV (some j) = V.non) = false from rfl]
    have e1 : nmV ms (some j) = .str m'.name := by simp only [nmV, hm']
    rw [e1] at q
    exact iteF ⟨_, h0, _, h8, a, xs, j, _, rfl, rfl, .inl hs, atI_nat hx, ta, _, 0, _, rfl, rfl, htk.ex e, rfl, q⟩
end HR
/-! d.get(x, y), x perhaps None; ranks by names -/
namespace HR
open PySem L2 PyProof.Rows
section
variable {X : Cx} {pins : List (Addr × Obj)} {σ : L2.St} {H : Hp} {s : Shared} {a : Addr} {kvs : List (Key × V)} {A : Around} {E : Value → Shared → Prop} {d : V} {r : Value}
theorem d_get2None {Q : Value → Shared → Prop} (I : Inv X pins σ H s) (e : L2.Rd H a (.dK kvs)) (rd : RelV d r) (h : ∀ w' s', Inv X pins σ H s' → RelV d w' → Q w' s') :
    wpAny (model X.prog X.w) A (call (.builtin "dict.get") [.ref a, .none, r]) Q E s := by
  obtain ⟨_, hd, vs, _, dd⟩ := dk_rd I.hok e
  obtain ⟨f, hm, hf⟩ := none_map dd
  refine call_meetsIn PySem.F.slot_dict_get dd.typeIs PySem.F.entry_dict_get (PySem.F.args_dict_get_3 _ _ _) (meets_dict_get_default (noneKind X.prog X.w) a (show (noneKind X.prog X.w).is none .none = true from rfl) hd r) ⟨_, hm, ?_⟩
  rw [hf]
  exact h _ _ (I.tok _) rd
end
def tDGet2N (td ty tx : TE) : TE := fun σ H Q => td σ H fun x H1 => ∃ a, x = .ref a ∧ IsD H1 a ∧ ty σ H1 fun y H2 => tx σ H2 fun z H3 => (∃ o, DGet H3 a y o ∧ Q (o.getD z) H3) ∨ (y = .non ∧ ∃ kvs, L2.Rd H3 a (.dK kvs) ∧ Q z H3)
section
variable {X : Cx} {o e f : Expr} {apos cpos : Pos} {td ty tx : TE}
theorem pe_dget2N (hu : X.A.units + 1 < cLine) (ho : PE X o td) (he : PE X e ty) (hf : PE X f tx) (m : M2 X o "get" apos e f cpos) : PE X (.Call (.Attribute o "get" apos) [e, f] [] cpos) (tDGet2N td ty tx) := by
  refine ⟨fun pins s σ H Q I h => ?_⟩
  refine wpAny_Call_method m.base m.few m.line PySem.F.plainAttrs_dict PySem.F.slot_dict_get PySem.F.type_dict_get (thn (ho.run pins s σ H _ I h) fun u s1 ⟨x, H1, I1, rx, a, ex, d, q1⟩ => ?_)
  subst ex
  obtain rfl : u = Value.ref a := rx
  obtain ⟨t1, t2, _⟩ := isD_at I1 d
  refine ⟨t1, t2, ?_⟩
  rw [m.trees]
  refine Calls.callWith_builtin rfl (Calls.evalArgs_plain (Calls.spliced_cons (thn (he.run pins s1 σ H1 _ I1 q1) fun iv s2 ⟨y, H2, I2, ry, q2⟩ =>
    Calls.spliced_cons (thn (hf.run pins s2 σ H2 _ I2 q2) fun fv s3 ⟨z, H3, I3, rz, q3⟩ => Calls.spliced_nil ?_))))
  rcases q3 with ⟨ov, g, q3⟩ | ⟨rfl, kvs, g, q3⟩
  · exact d_get2 hu I3 g ry rz fun w' s4 I4 rw' => ⟨_, H3, I4, rw', q3⟩
  · obtain rfl : iv = Value.none := ry
    exact d_get2None I3 g rz fun w' s4 I4 rw' => ⟨_, H3, I4, rw', q3⟩
end
/-! ### ranks by names -/
def rkKv (ms : List Tk) : List (Key × V) := ms.map fun m => (.inr m.name, .int m.rank)
theorem valV_merge : ∀ (more kvs : List (Key × V)) (k : Key), k ∉ more.map (·.1) → valV (mergeK kvs more) k = valV kvs k
  | [], _, _, _ => rfl
  | p :: r, kvs, k, h => by
    show valV (mergeK (putK kvs p.1 p.2) r) k = _
    rw [valV_merge r _ k fun z => h (List.mem_cons_of_mem _ z), valV_put, if_neg fun z => h (by rw [z]; exact List.mem_cons_self)]
theorem valV_mergeN : ∀ (more kvs : List (Key × V)) (k : Key) (v : V), (more.map (·.1)).Nodup → (k, v) ∈ more → valV (mergeK kvs more) k = some v
  | [], _, _, _, _, h => nomatch h
  | p :: r, kvs, k, v, nd, h => by
    obtain ⟨n1, n2⟩ := List.nodup_cons.mp nd
    show valV (mergeK (putK kvs p.1 p.2) r) k = _
    rcases List.mem_cons.mp h with e | h
    · subst e
      rw [valV_merge r _ _ n1, valV_put, if_pos rfl]
    · exact valV_mergeN r _ k v n2 h
theorem rkKv_get {ms : List Tk} (h : HallOk ms) {j : Nat} {m : Tk} (hm : ms[j]? = some m) : valV (mergeK [] (rkKv ms)) (.inr m.name) = some (.int m.rank) := by
  refine valV_mergeN _ _ _ _ ?_ (List.mem_map.mpr ⟨m, List.mem_of_getElem? hm, rfl⟩)
  unfold rkKv
  rw [List.map_map]
  have := List.Pairwise.map (f := fun z : Str => (Sum.inr z : Key)) (R := fun a b => a ≠ b) (S := fun a b => a ≠ b) (fun a b q z => q (Sum.inr.inj z)) h.nd
  rw [List.map_map] at this
  exact this
/-- ranks.get(name or None, 11) -/
theorem get_rank {ms : List Tk} {T : Int} {b : Option Nat} {H : Hp} {a : Addr} {Q : VK} (h : HallOk ms) (sp : IsSpk ms T b) (hd : H a = some (.dK (mergeK [] (rkKv ms)))) (q : Q (.int (rkAt ms b)) H) :
    (∃ o, DGet H a (nmV ms b) o ∧ Q (o.getD (.int 11)) H) ∨ (nmV ms b = .non ∧ ∃ kvs, L2.Rd H a (.dK kvs) ∧ Q (.int 11) H) := by
  cases b with
  | none => exact .inr ⟨rfl, _, L2.Rd.of hd, q⟩
  | some j =>
    obtain ⟨m, hm⟩ := spk_at sp
    refine .inl ⟨_, .inl ⟨_, .inr m.name, L2.Rd.of hd, by simp only [nmV, hm]; rfl, rfl⟩, ?_⟩
    rw [rkKv_get h hm]
    simp only [rkAt, hm] at q
    exact q
/-! ### equal lists of ints -/
theorem ints_data {K : PySem.W.Frag} {H : Hp} : ∀ (ns : List Int), DpAll K H (ns.map V.int) (ns.map PyData.int)
  | [] => .nil
  | n :: ns => .cons (.int n) (ints_data ns)
theorem ints_lay : ∀ (ns : List Int), PyData.canLayAll0 (ns.map PyData.int) = true ∧ PyData.depthAll (ns.map PyData.int) = 0
  | [] => ⟨rfl, rfl⟩
  | n :: ns => by
    obtain ⟨h1, h2⟩ := ints_lay ns
    refine ⟨by simp [PyData.canLayAll0, PyData.canLay0, h1], ?_⟩
    simp [PyData.depthAll, PyData.depth, h2]
theorem ints_shaped (ns : List Int) : SeqAt.shaped (.list (ns.map PyData.int)) = true := by
  obtain ⟨h1, h2⟩ := ints_lay ns
  refine Bool.and_eq_true_iff.mpr ⟨by rw [PyData.canLay0]; exact h1, decide_eq_true ?_⟩
  rw [PyData.depth, h2]; decide
theorem ints_eqv : ∀ (ns ks : List Int), PyData.eqvAll (ns.map PyData.int) (ks.map PyData.int) = decide (ns = ks)
  | [], [] => by simp [PyData.eqvAll]
  | [], _ :: _ => by simp [PyData.eqvAll]
  | _ :: _, [] => by simp [PyData.eqvAll]
  | n :: ns, k :: ks => by
    simp only [List.map_cons, PyData.eqvAll, PyData.eqv, ints_eqv ns ks]
    rw [Bool.eq_iff_iff]
    simp
theorem use_eqInts {K : PySem.W.Frag} {H : Hp} {p q : Addr} (ns ks : List Int) {Q : VK} (hp : SqL K H p (ns.map V.int)) (hq : SqL K H q (ks.map V.int)) (k : Q (.bl (decide (ns = ks))) H) : rEqD K (.ref p) (.ref q) H Q := by
  refine ⟨_, _, .lst hp (ints_data ns), .lst hq (ints_data ks), ints_shaped _, ints_shaped _, ?_⟩
  rw [PyData.eqv, ints_eqv]
  exact k
theorem use_neInts {K : PySem.W.Frag} {H : Hp} {p q : Addr} (ns ks : List Int) {Q : VK} (hp : SqL K H p (ns.map V.int)) (hq : SqL K H q (ks.map V.int)) (k : Q (.bl (!decide (ns = ks))) H) : rNeD K (.ref p) (.ref q) H Q := by
  refine ⟨_, _, .lst hp (ints_data ns), .lst hq (ints_data ks), ints_shaped _, ints_shaped _, ?_⟩
  rw [PyData.eqv, ints_eqv]
  exact k
theorem dict_pairs {K : PySem.W.Frag} {H : Hp} : ∀ {ys : List V} {ms : List Tk}, PySem.Paired (fun y (m : Tk) => ∃ p, y = .ref p ∧ H p = some (.tup [.str m.name, .int m.rank])) ys ms →
    ∃ ps : List Addr, ys = ps.map V.ref ∧ PySem.Paired (fun p (kv : Key × V) => SqT K H p [kV kv.1, kv.2]) ps (rkKv ms)
  | _, _, .nil => ⟨[], rfl, .nil⟩
  | _, _, .cons ⟨p, e, h⟩ r => by
    obtain ⟨ps, e1, r1⟩ := dict_pairs r
    exact ⟨p :: ps, by rw [e, e1]; rfl, .cons (SqT.of h) r1⟩
/-- dict([(x[0], x[1]) for x in hall]) -/
theorem ranks_dict {K : PySem.W.Frag} {ms : List Tk} {i i0 : Nat} {σ : L2.St} {H : Hp} {v : V} {Q : VK} (hv : HallAt K H v ms) (h10 : ms.length ≤ 10) (h0 : σ[i0]? = some (some v)) (hil : i < σ.length)
    (k : ∀ p H', Ex H H' → H' p = some (.dK (mergeK [] (rkKv ms))) → Q (.ref p) H') :
    tCB (fun xs H Q => ∃ (a : Addr) (ps : List Addr) (kvs : List (Key × V)), xs = [V.ref a] ∧ SqL K H a (ps.map V.ref) ∧ PySem.Paired (fun p kv => SqT K H p [kV kv.1, kv.2]) ps kvs ∧ ∀ p, H p = none → Q (.ref p) (upd H p (.dK (mergeK [] kvs))))
      (tCons (tLc (iAny K (tVar i0)) (gName i) tYes (tTup (tCons (tOp (rIxA K) (tVar i) (tC (.int 0))) (tCons (tOp (rIxA K) (tVar i) (tC (.int 1))) tNil))) [i]) tNil) σ H Q := by
  obtain ⟨a, xs, rfl, hs, hp⟩ := hv
  have hi : ∀ x : V, ((wipe σ [i]).set i (some x))[i]? = some (some x) := fun x => List.getElem?_set_self (by rw [wipe_length]; exact hil)
  refine cb1 ?_
  refine lcA (S := H) (as := ms) (fun x t => TkAt K H x t) (fun _ => true) (fun y m Hx => ∃ p, y = .ref p ∧ Hx p = some (.tup [.str m.name, .int m.rank])) (Ex.refl _) (fun Q' q => ⟨_, h0, q⟩) hs hp (fun y b H1 H2 e ⟨p, e1, h⟩ => ⟨p, e1, e _ _ h⟩) (by omega) ?_ ?_
  · intro j x b Sc H' s1 s2 e hx hb hR C Cn c1 _
    obtain ⟨ta, p1, p2, rfl, htk, _, _⟩ := hR
    refine ⟨by simp [wipe, List.set_set], ?_⟩
    refine ⟨_, hi _, ta, _, 0, _, rfl, rfl, htk.ex e, rfl, _, hi _, ta, _, 1, _, rfl, rfl, htk.ex e, rfl, by show 2 ≤ sizeLine; decide, fun p np => c1 rfl _ _ (Ex.new np) ⟨p, rfl, ?_⟩⟩
    rw [ext_new np]
    exact upd_same
  · intro D ys H' hD e hd hp2
    rw [filter_true] at hp2
    have hp3 : PySem.Paired (fun y (m : Tk) => ∃ p, y = V.ref p ∧ H' p = some (.tup [.str m.name, .int m.rank])) ys ms := Paired.imp hp2 fun y m ⟨p, e1, h⟩ => ⟨p, e1, by
      by_cases z : H p = none
      · rw [ext_new z] at h; exact h
      · rw [show ext H H H' p = H p from if_neg z] at h; exact e _ _ h⟩
    obtain ⟨ps, e1, r1⟩ := dict_pairs (K := K) hp3
    subst e1
    refine ⟨D, ps, rkKv ms, rfl, SqL.of hd, r1, fun p np => k p _ (e.trans (Ex.new np)) upd_same⟩
/-- ranks.get(row[0], 11) -/
theorem dget_rank {K : PySem.W.Frag} {ms : List Tk} {T : Int} {b : Option Nat} {i3 i7 : Nat} {σ : L2.St} {H : Hp} {a rp : Addr} {rest : List V} {Q : VK} (h : HallOk ms) (sp : IsSpk ms T b) (h3 : σ[i3]? = some (some (.ref a))) (h7 : σ[i7]? = some (some (.ref rp)))
    (hd : H a = some (.dK (mergeK [] (rkKv ms)))) (hr : Sq K H rp (nmV ms b :: rest)) (q : Q (.int (rkAt ms b)) H) : tDGet2N (tVar i3) (tOp (rIxA K) (tVar i7) (tC (.int 0))) (tC (.int 11)) σ H Q :=
  ⟨_, h3, a, rfl, .inl ⟨_, L2.Rd.of hd⟩, _, h7, rp, _, 0, _, rfl, rfl, hr, atI_nat (j := 0) rfl, get_rank h sp hd q⟩
/-- (a, b, ..) = a list or a tuple of that length -/
def gAny (K : PySem.W.Frag) (n : Nat) (t : TGs) : TG := fun v σ H Q => ∃ a xs, v = .ref a ∧ Sq K H a xs ∧ xs.length = n ∧ t xs σ H Q
theorem kpg_any {X : Cx} (K : PySem.W.Frag) (hK : X.K = K) {es : List Expr} {k : Nat} {t : TGs} {n : Nat} {pos : Pos} (h : PGs X es t) (hc : X.calm = true := by rfl)
    (hn : (assignEach es X.env).length = n := by rfl) (hst : (assignEach es X.env).findIdx? (·.1) = none := by rfl) : PG X (.Tuple es k pos) (gAny K n t) := by
  subst hK
  refine ⟨fun pins s σ H v u Q I r hw => ?_⟩
  obtain ⟨a, xs, rfl, hq | hq, hl, hw⟩ := hw
  · exact (pg_unl hc h hn hst).run pins s σ H _ u Q I r ⟨a, xs, rfl, hq, hl, hw⟩
  · exact (pg_tup hc h hn hst).run pins s σ H _ u Q I r ⟨a, xs, rfl, hq, hl, hw⟩
end HR
/-! repr of lists and tuples; the end of a law whose own body shows data (no repr runs around it) -/
namespace HR
open PySem PySem.Spec L2 PyProof.Rows
section
variable {X : Cx}
/-- repr(xs) -/
def rRepr (K : PySem.W.Frag) : List V → Hp → VK → Prop := fun xs H Q => ∃ a d, xs = [.ref a] ∧ Dp K H (.ref a) d ∧ d.showable = true ∧ d.hasDict = false ∧ d.depth ≤ 60 ∧ d.shown.length ≤ sizeLine ∧ Q (.str d.shown) H
theorem call_reprD (hg : X.A.guards = some []) (hu : X.A.units + 64 < cLine) : CallR X (.builtin "repr") (rRepr X.K) := by
  intro pins s σ H xs us Q I r h
  obtain ⟨a, d, rfl, hd, hs, hn, h60, hz, q⟩ := h
  obtain ⟨u, rfl, rx⟩ := vals1 r
  have rx' := rx
  obtain rfl : u = Value.ref a := rx
  obtain ⟨as, rd⟩ := Dp.reads I d _ _ hd rx'
  refine repr_of_reads' rd hs (fun e => by rw [hn] at e; cases e) hg (by omega) (fun _ _ e => e) (fun h' u tk hk => ⟨.str d.shown, H, I.kept (t' := tk) hk, ⟨u, rfl⟩, q⟩) hz
theorem krepr (K : PySem.W.Frag) (hK : X.K = K) (hg : X.A.guards = some []) (hu : X.A.units + 64 < cLine) : CallR X (.builtin "repr") (rRepr K) := by subst hK; exact call_reprD hg hu
end
/-- the heap of the start: the script, if the written part does not have it -/
def scriptH (K : PySem.W.Frag) (a : Addr) (vs : List Value) (ns : List Int) : Hp := fun b => if b = a ∧ K.lookup a = none then some (.frz { cls := .type "list", data := .seq vs.toArray } (.lst (ns.map V.int))) else none
section
variable {P : Program} {w : World} {K : PySem.W.Frag} {mg mb : Str → Option Value} {CX : CXT} {k : Nat} {fa a : Addr} {fd : FuncData} {x : Str} {sp : Sp} {s₁ : Shared} {vs : List Value} {ns : List Int}
theorem scriptH_some {b : Addr} {o : HO} (h : scriptH K a vs ns b = some o) : b = a ∧ K.lookup a = none ∧ o = .frz { cls := .type "list", data := .seq vs.toArray } (.lst (ns.map V.int)) := by
  unfold scriptH at h
  by_cases z : b = a ∧ K.lookup a = none
  · rw [if_pos z] at h
    cases h
    exact ⟨z.1, z.2, rfl⟩
  · rw [if_neg z] at h; cases h
theorem scriptH_only : Only (scriptH K a vs ns) := fun b => by
  cases e : scriptH K a vs ns b with
  | none => exact .inl rfl
  | some o => exact .inr ⟨_, _, by rw [(scriptH_some e).2.2]⟩
/-- a law's call, from the run behind the caller of the claims -/
theorem call_at (KX : K.In s₁.heap) (hns : s₁.heap.Ns mainGlobals mg) (hb : s₁.heap.Ns builtinsNs mb) (hbb : ∀ x : Str, x ≠ "__name__" → mb x = bootBuiltins x) (hlim : s₁.heap.NoLimit) (hg : s₁.gens = #[])
    (ha : s₁.heap.get? a = some { cls := .type "list", data := .seq vs.toArray }) (hi : IntsAre vs ns) (hl : ns.length ≤ sizeLine)
    (run : ∀ (base : Heap) (H : Hp), K.In base → base.Ns mainGlobals mg → Env0 P w K mg base callerA [] s₁ H → Only H → SqL K H a (ns.map V.int) →
      codeAny (model P w) callerA (.call (.ref fa) ⟨[.ref a], []⟩) (CR CX [] P w H s₁ (fun v _ => v = .bl true) fun _ _ _ => False) s₁)
    (hCX : ∀ H e s', CX [] H s₁ (fun _ _ _ => False) e s' → False) :
    codeAny (model P w) callerA (.call (.ref fa) ⟨[.ref a], []⟩) (fun r s' => r = .ok (.ret (.bool true)) ∧ OldK s₁.heap s'.heap ∧ s'.os = s₁.os ∧ AllBare s'.gens) s₁ := by
  have rv := vals_ints hi
  have hS : SqL K (scriptH K a vs ns) a (ns.map V.int) := by
    cases hk : K.lookup a with
    | none => exact .inl (.inr ⟨{ cls := .type "list", data := .seq vs.toArray }, if_pos ⟨rfl, hk⟩⟩)
    | some o =>
      have e := KX a o hk
      rw [ha] at e
      cases e
      exact .inr ⟨_, vs.toArray, _, hk, rfl, rfl, rfl, by rw [List.size_toArray, hi.length]; exact hl, by simpa using rv⟩
  -- what is not the script stands under the hidden heap too
  have under : ∀ {b : Addr} {o : Obj}, s₁.heap.get? b = some o → (b = a → K.lookup a ≠ none) → (hidT s₁.heap (scriptH K a vs ns)).get? b = some o := fun {b o} e n => hidT_get e (by
    cases q : scriptH K a vs ns b with
    | none => rfl
    | some u =>
      obtain ⟨h1, h2, _⟩ := scriptH_some q
      exact absurd h2 (n h1))
  have space : ∀ {b : Addr} {m : Str → Option Value}, s₁.heap.Ns b m → (hidT s₁.heap (scriptH K a vs ns)).Ns b m := fun {b m} ⟨o, es, ep, e, d, r⟩ => ⟨o, es, ep, under e (fun z => by
    rw [z, ha] at e
    cases e
    have d' : Data.seq vs.toArray _ = Data.dict es ep := d
    cases d'), d, r⟩
  have Kb : K.In (hidT s₁.heap (scriptH K a vs ns)) := fun b o e => under (KX b o e) fun z => by rw [← z, e]; exact fun q => nomatch q
  have M : Mod K mg (hidT s₁.heap (scriptH K a vs ns)) := ⟨Kb, space hns, ⟨mb, space hb, hbb⟩, by
    obtain ⟨mc, h1, h2⟩ := hlim
    exact ⟨mc, space h1, h2⟩⟩
  have hok : HOk P w (scriptH K a vs ns) s₁.heap := fun b u z => by
    obtain ⟨h1, _, h3⟩ := scriptH_some z
    subst h1
    subst h3
    exact ⟨ha, by rw [List.length_map]; exact hl, vs, _, rv, ha⟩
  have env : Env0 P w K mg (hidT s₁.heap (scriptH K a vs ns)) callerA [] s₁ (scriptH K a vs ns) := ⟨rfl, M, fun b o e => of_hidT e, Nat.le_of_eq (hidT_size _ _), trivial, fun b hb => absurd (show b ∈ ([] : List Addr) from hb) (by simp), hok, .of_eq hg⟩
  refine codeAny_mono (run _ _ Kb (space hns) env scriptH_only hS) fun r s' h => ?_
  match r, h with
  | .error e, h => exact (hCX _ e s' h).elim
  | .ok .next, h => exact False.elim h
  | .ok .brk, h => exact False.elim h
  | .ok .cont, h => exact False.elim h
  | .ok (.ret u), h =>
    obtain ⟨v, H', os, bare, un, hok', r', q⟩ := h
    obtain rfl : v = .bl true := q
    obtain rfl : u = Value.bool true := r'
    refine ⟨rfl, OldK.of_keep fun b o e => ?_, os, bare⟩
    cases z : scriptH K a vs ns b with
    | none => exact un.keep b o e z (by intro q; exact absurd (show b ∈ ([] : List Addr) from q) (by simp)) (by simp)
    | some u =>
      obtain ⟨h1, _, h3⟩ := scriptH_some z
      subst h3
      obtain ⟨e1, _⟩ := hok b _ z
      obtain ⟨e2, _⟩ := hok' b _ (un.frzs b _ _ z)
      rw [e] at e1
      cases e1
      exact e2
end
/-- a def's run behind a given caller, by its body -/
theorem code_of {P : Program} {w : World} {K : PySem.W.Frag} {mg : Str → Option Value} {base : Heap} {x qual : Str} {st : Stmt} {f : Addr} {fd : FuncData} {N ps : List Str} {k : Nat} {A : Around} {outer : List Env} {s : Shared} {H : Hp} {args : Args} {us : List Value} {vs : List V} {Q : VK}
    (F : C8.Fun K x qual st f fd) (S : FnScope N ps (C8.fnScope st)) (hr : Room (k + 1) A) (e0 : Env0 P w K mg base A outer s H) (hb : BindsTo s fd args (ps.zip us)) (r : Vals vs us) (hl : vs.length = ps.length)
    (body : ∀ (cdv : Value) (E : XK), Room k (A.deeper (PyProof.Rows.envOfC qual (C8.fnScope st) s.heap.objs.size f cdv)) →
      ∃ t, PSs (cxOf C8.CX0 P w K mg base N qual (C8.fnScope st) f cdv A outer s H E).nox (C8.fnBody st) t ∧ t { nx := fun _ H' => Q .non H', rt := Q } (start N vs) H) (E : XK) :
    codeAny (model P w) A (.call (.ref f) args) (CR C8.CX0 outer P w H s Q E) s := by
  obtain ⟨oc, od, dV, kV, doc, pm, an, cdv, ct, osl, rfl, lk, hcd⟩ := F.ex
  have KX : K.In s.heap := e0.mod.kin.keeps fun b o e => (e0.bs b o e).1
  have lim : s.heap.NoLimit := e0.mod.nolimit.keeps fun b o e => (e0.bs b o e).1
  have kinds : ∀ y ∈ ps.zip us, (C8.fnScope st).names.lookup y.1 = some .local ∨ ((C8.fnScope st).names.lookup y.1 = some .cell ∧ ((cellsFrom (s.heap.objs.size + 1) (C8.fnScope st).names []).lookup y.1).isSome = true) := fun ⟨n, v⟩ hy =>
    (S.par n (List.of_mem_zip hy).1).imp id fun q => ⟨q, PySem.W.cellsFrom_some _ _ _ (.inl q)⟩
  refine codeAny_call_function hr.depth (KX _ _ lk) rfl S.co S.gen rfl (PySem.W.codeRec_of KX hcd) (hb _ _ _ _ ?_)
  refine wpAny_newFunctionEnv_cells S.kind kinds fun env he s1 x1 => ?_
  subst he
  refine ⟨lim.keeps x1.toInCall.keep, codeAny_func ?_⟩
  obtain ⟨t, ht0, hq⟩ := body cdv E (hr.deeper _)
  have ht := ht0.nox
  refine wpAny_mono (ht.run [] s1 (start N vs) H _ (inv_start S hr.hd e0 hl r x1) hq) (fun fl s' hs => ?_) fun e s' hs => hs
  match fl, hs with
  | .ret u, ⟨v, σ', H', J, rv, q⟩ => exact ⟨v, H', J.os, J.bare, J.base, J.hok, rv, q⟩
  | .next, ⟨σ', H', J, q⟩ => exact ⟨V.non, H', J.os, J.bare, J.base, J.hok, rfl, q⟩
  | .brk, ⟨_, _, _, q⟩ => exact False.elim q
  | .cont, ⟨_, _, _, q⟩ => exact False.elim q
/-- the end of a law, from its def's body -/
theorem walk_ofG {l : PySem.W.OpenLaw} {n k : Nat} {q : Program} {loose : List Str} {XP : (Str → Option Value) → Heap → Prop} {YP : World → Heap → Prop} {d : DefRec} {K : Params → PySem.W.Frag} {x qn : Str} {st : Stmt} {N : List Str}
    (hq : d.name = qn) (hn : l.most = some n) (hn2 : n ≤ sizeLine) (hdf : d.params.defaults = []) (hr : Room (k + 1) callerA) (hY : ∀ (w : World) (h : Heap), YP w h → (K w.params).In h) (S : FnScope N [x] (C8.fnScope st))
    (F : ∀ (w : World) (mg : Str → Option Value) (h : Heap), (K w.params).In h → h.Ns mainGlobals mg → DefE (K w.params) mg qn st [x])
    (body : ∀ (w : World) (mg : Str → Option Value) (base : Heap), (K w.params).In base → base.Ns mainGlobals mg → ∀ (f : Addr) (cdv : Value) (A : Around) (outer : List Env) (s : Shared) (H : Hp) (E : XK) (a : Addr) (ns : List Int), A.guards = some [] → Room k (A.deeper (envOfC qn (C8.fnScope st) s.heap.objs.size f cdv)) → SqL (K w.params) H a (ns.map V.int) → ns.length ≤ n →
      ∃ t, PSs (cxOf C8.CX0 l.prog w (K w.params) mg base N qn (C8.fnScope st) f cdv A outer s H E).nox (C8.fnBody st) t ∧ t { nx := fun _ _ => V.non = V.bl true, rt := fun v _ => v = V.bl true } (start N [.ref a]) H) :
    PySem.W.WalkO q loose XP YP l.row.toRowW d [] (fun f vs => PySem.call f vs) := by
  subst hq
  refine Att.attach_call hn hdf fun w s₀ s₁ mg mb fa o pm cd doc a vs ns G Y ho hd hcd hmg hobj hints hlen hg => ?_
  have KX := hY w _ Y
  obtain ⟨f, fd, D, b⟩ := (F w mg _ KX G.T.g).ex
  have e : f = fa := by
    have := D.mgf
    rw [hmg] at this
    cases this
    rfl
  subst e
  refine call_at (CX := C8.CX0) KX G.T.g G.T.b G.T.builtins G.T.nolimit hg hobj hints (Nat.le_trans hlen hn2) (fun base H hK hN env hO hS => ?_) fun _ _ _ h => h
  exact code_of (us := [.ref a]) (vs := [.ref a]) D.fn S hr env (b s₁ [.ref a] KX rfl) (.cons (show L2.RelV (.ref a) (.ref a) from rfl) .nil) rfl (fun cdv E hr' => body w mg base hK hN f cdv callerA [] s₁ H E a ns rfl hr' hS hlen) _
end HR
/-! from the head's facts to the text -/
namespace HR
open PySem L2 PyProof.Rows
/-- a def whose last parameters may lack -/
theorem defD_mk {K : PySem.W.Frag} {mg : Str → Option Value} {h : Heap} {x : Str} {st : Stmt} {ps : List Str} {dvs : List V} {its : List Value} {n : Nat} {f T : Addr} {od odT an : Option Addr} {sl slT : Array (Option Value)} {oc ocT kV dc pm cd ct : Value} {m : Nat} {dT : Data}
    (X : K.In h) (G : h.Ns mainGlobals mg) (hd : dvs ≠ []) (hn : n + dvs.length = ps.length) (hv : Vals dvs its)
    (hb : ∀ (T : Addr) (kV doc pm : Value) (an : Option Addr) (cdv ct : Value) (us its : List Value), us.length = n → its.length = dvs.length →
      ∃ k, bindArgs (PySem.W.fnOf x x (C8.fnArgs st) (C8.fnBody st) (C8.fnScope st) (.ref T) kV doc pm an cdv ct) ⟨us, []⟩ = seqItems? (.ref T) >>= k ∧ k (some its.toArray) = pure (ps.zip (us ++ its.drop 0)))
    (ha : ∀ (T : Addr) (kV doc pm : Value) (an : Option Addr) (cdv ct : Value) (us its : List Value), us.length = ps.length → its.length = dvs.length →
      ∃ k, bindArgs (PySem.W.fnOf x x (C8.fnArgs st) (C8.fnBody st) (C8.fnScope st) (.ref T) kV doc pm an cdv ct) ⟨us, []⟩ = seqItems? (.ref T) >>= k ∧ k (some its.toArray) = pure (ps.zip us))
    (a : PySem.W.nsIn K mainGlobals x = some (some (.ref f))) (l : K.lookup f = some ⟨oc, od, .func (PySem.W.fnOf x x (C8.fnArgs st) (C8.fnBody st) (C8.fnScope st) (.ref T) kV dc pm an cd ct), sl⟩)
    (c : PySem.W.codeIn K cd x = true) (k : PySem.W.keepIn K (.ref f) = true) (lT : K.lookup T = some ⟨ocT, odT, dT, slT⟩) (eT : dT = .seq its.toArray m) : DefD K mg x st ps dvs := by
  have F : C8.Fun K x x st f _ := ⟨⟨oc, od, .ref T, kV, dc, pm, an, cd, ct, sl, rfl, l, c⟩⟩
  have len : its.length = dvs.length := hv.length.symm
  refine ⟨f, _, its, ⟨F, PySem.W.mg_of X G a, k⟩, fun s us KX hlen => ?_, fun s us KX hlen => ?_, hv⟩
  · rw [List.append_nil] at hlen ⊢
    obtain ⟨kk, e1, e2⟩ := ha T kV dc pm an cd ct us its hlen len
    refine BindsTo.of_looks fun M => ?_
    rw [e1]
    exact looks_items KX lT eT (.of_pure e2)
  have l2 : us.length = n := by
    rw [List.length_append, len] at hlen
    omega
  obtain ⟨kk, e1, e2⟩ := hb T kV dc pm an cd ct us its l2 len
  refine BindsTo.of_looks fun M => ?_
  rw [e1]
  exact looks_items KX lT eT (.of_pure (by rw [e2]; rfl))
/-- an int of the module -/
theorem int_mk {K : PySem.W.Frag} {mg : Str → Option Value} {h : Heap} {x : Str} {i j : Int} {t : Tok} (X : K.In h) (G : h.Ns mainGlobals mg) (a : PySem.W.nsIn K mainGlobals x = some (some (.int j t))) (e : i = j) : ∃ u, mg x = some u ∧ RelV (.int i) u :=
  ⟨_, PySem.W.mg_of X G a, t, by rw [e]⟩
theorem str_mk {K : PySem.W.Frag} {mg : Str → Option Value} {h : Heap} {x z : Str} {t : Tok} (X : K.In h) (G : h.Ns mainGlobals mg) (a : PySem.W.nsIn K mainGlobals x = some (some (.str z t))) : ∃ u, mg x = some u ∧ RelV (.str z) u :=
  ⟨_, PySem.W.mg_of X G a, t, rfl⟩
end HR
/-! trees as data: what repr shows of them, comparisons with [] -/
namespace HR
open PySem PySem.Spec L2 PyProof.Rows
mutual
def Tr.Fine : Tr → Prop
  | .int i => i.natAbs < 10 ^ 31
  | .str z => NameOk z
  | .node ts => Tr.FineAll ts
def Tr.FineAll : List Tr → Prop
  | [] => True
  | t :: ts => t.Fine ∧ Tr.FineAll ts
end
theorem Tr.fineAll_map {α : Type} (f : α → Tr) : ∀ (l : List α), (∀ a ∈ l, (f a).Fine) → Tr.FineAll (l.map f)
  | [], _ => trivial
  | a :: l, h => ⟨h a List.mem_cons_self, Tr.fineAll_map f l fun b hb => h b (List.mem_cons_of_mem _ hb)⟩
/-- what is asked of data that repr shows -/
structure Shows (d : PyData) (dep siz : Nat) : Prop where
  show_ : d.showable = true
  noD : d.hasDict = false
  lay : d.canLay0 = true
  dep : d.depth = dep
  leaf : d.leavesShort 32 = true
  bulk : d.bulk + 1 ≤ 10 * siz
structure ShowsAll (ds : List PyData) (dep siz : Nat) : Prop where
  show_ : PyData.showableAll ds = true
  noD : PyData.hasDictAll ds = false
  lay : PyData.canLayAll0 ds = true
  dep : PyData.depthAll ds = dep
  leaf : PyData.leavesShortAll 32 ds = true
  bulk : PyData.bulkAll ds ≤ 10 * siz
theorem log_small {i : Int} (h : i.natAbs < 10 ^ 31) : i.natAbs.log2 < 1920 := by
  by_cases z : i.natAbs = 0
  · rw [z]; decide
  · exact (Nat.log2_lt z).mpr (Nat.lt_of_lt_of_le h (Nat.le_trans (by decide : 10 ^ 31 ≤ 2 ^ 128) (Nat.pow_le_pow_right (by decide) (by decide))))
theorem shows_int {i : Int} (h : i.natAbs < 10 ^ 31) : Shows (.int i) 0 1 := by
  refine ⟨by simp [PyData.showable, log_small h], rfl, rfl, rfl, ?_, by show 0 + 1 ≤ 10 * 1; omega⟩
  have e := int_text_length_le10 (k := 31) (by decide) h
  refine decide_eq_true ?_
  show (Str.ofString (toString i)).length ≤ 32
  rw [PySem.ofString_length]; exact e
theorem shows_str {z : Str} (h : NameOk z) : Shows (.str z) 0 1 := by
  refine ⟨rfl, rfl, ?_, rfl, ?_, ?_⟩
  · show z.cps.all (· < 0x110000) = true
    rw [← Array.all_toList, List.all_eq_true]
    intro c hc
    have := h.2.2 c hc
    exact decide_eq_true (by omega)
  · show (z.cps.toList.all fun c => decide (c < 16 ^ 8)) = true
    rw [List.all_eq_true]
    intro c hc
    have := h.2.2 c hc
    exact decide_eq_true (by omega)
  · show z.cps.size + 1 ≤ 10 * 1
    have : z.length = z.cps.size := rfl
    have := h.2.1
    omega
section
variable {K : PySem.W.Frag} {H : Hp}
mutual
theorem TrAt.data : ∀ (t : Tr) {v : V}, TrAt K H v t → t.Fine → ∃ d, Dp K H v d ∧ Shows d t.depth t.size
  | .int i, _, h, f => by cases h; exact ⟨_, .int i, shows_int f⟩
  | .str z, _, h, f => by cases h; exact ⟨_, .str z, shows_str f⟩
  | .node ts, _, h, f => by
    cases h with
    | node q r =>
      obtain ⟨ds, h1, h2⟩ := TrAll.data ts r f
      rcases q with q | q
      · exact ⟨.list ds, .lst q h1, ⟨h2.show_, h2.noD, h2.lay, by rw [PyData.depth, h2.dep, Tr.depth], h2.leaf, by
          have := h2.bulk
          rw [PyData.bulk, Tr.size]; omega⟩⟩
      · exact ⟨.tuple ds, .tup q h1, ⟨h2.show_, h2.noD, h2.lay, by rw [PyData.depth, h2.dep, Tr.depth], h2.leaf, by
          have := h2.bulk
          rw [PyData.bulk, Tr.size]; omega⟩⟩
theorem TrAll.data : ∀ (ts : List Tr) {vs : List V}, TrAll K H vs ts → Tr.FineAll ts → ∃ ds, DpAll K H vs ds ∧ ShowsAll ds (Tr.depthAll ts) (Tr.sizeAll ts)
  | [], _, h, _ => by cases h; exact ⟨[], .nil, ⟨rfl, rfl, rfl, rfl, rfl, Nat.zero_le _⟩⟩
  | t :: ts, _, h, f => by
    cases h with
    | cons q r =>
      obtain ⟨d, h1, h2⟩ := TrAt.data t q f.1
      obtain ⟨ds, h3, h4⟩ := TrAll.data ts r f.2
      refine ⟨d :: ds, .cons h1 h3, ⟨by simp [PyData.showableAll, h2.show_, h4.show_], by simp [PyData.hasDictAll, h2.noD, h4.noD], by simp [PyData.canLayAll0, h2.lay, h4.lay], by simp [PyData.depthAll, Tr.depthAll, h2.dep, h4.dep], by simp [PyData.leavesShortAll, h2.leaf, h4.leaf], ?_⟩⟩
      have := h2.bulk
      have := h4.bulk
      simp only [PyData.bulkAll, Tr.sizeAll]
      omega
end
end
mutual
theorem Dp.ex {K : PySem.W.Frag} {H H' : Hp} (e : Ex H H') : ∀ (d : PyData) {v : V}, Dp K H v d → Dp K H' v d
  | .none, _, h => by cases h; exact .non
  | .bool b, _, h => by cases h; exact .bl b
  | .int i, _, h => by cases h; exact .int i
  | .str z, _, h => by cases h; exact .str z
  | .list ds, _, h => by
    cases h with
    | lst q r => exact .lst (Evl.ex_l e q) (DpAll.ex e ds r)
  | .tuple ds, _, h => by
    cases h with
    | tup q r => exact .tup (Evl.ex_t e q) (DpAll.ex e ds r)
  | .dict _, _, h => by cases h
theorem DpAll.ex {K : PySem.W.Frag} {H H' : Hp} (e : Ex H H') : ∀ (ds : List PyData) {vs : List V}, DpAll K H vs ds → DpAll K H' vs ds
  | [], _, h => by cases h; exact .nil
  | d :: ds, _, h => by
    cases h with
    | cons q r => exact .cons (Dp.ex e d q) (DpAll.ex e ds r)
end
/-- z is what repr shows of v -/
def ShowAt (K : PySem.W.Frag) (H : Hp) (v : V) (z : Str) : Prop := ∃ a d dep siz, v = .ref a ∧ Dp K H v d ∧ Shows d dep siz ∧ dep ≤ 60 ∧ siz ≤ 40000 ∧ z = d.shown
theorem ShowAt.ex {K : PySem.W.Frag} {H H' : Hp} {v : V} {z : Str} (e : Ex H H') (h : ShowAt K H v z) : ShowAt K H' v z := by
  obtain ⟨a, d, dep, siz, h1, h2, h3⟩ := h
  exact ⟨a, d, dep, siz, h1, Dp.ex e d h2, h3⟩
theorem ShowAt.use {K : PySem.W.Frag} {H : Hp} {v : V} {z : Str} {Q : VK} (h : ShowAt K H v z) (q : Q (.str z) H) : rRepr K [v] H Q := by
  obtain ⟨a, d, dep, siz, rfl, h2, h3, h4, h5, rfl⟩ := h
  have := PyData.shown_le_bulk 32 (by decide) d h3.leaf
  have := h3.bulk
  exact ⟨a, d, rfl, h2, h3.show_, h3.noD, by rw [h3.dep]; exact h4, by unfold sizeLine; omega, q⟩
theorem TrAt.shows {K : PySem.W.Frag} {H : Hp} {a : Addr} {t : Tr} (h : TrAt K H (.ref a) t) (f : t.Fine) (hd : t.depth ≤ 60) (hs : t.size ≤ 40000) : ∃ z, ShowAt K H (.ref a) z := by
  obtain ⟨d, h1, h2⟩ := TrAt.data t h f
  exact ⟨_, a, d, _, _, rfl, h1, h2, hd, hs, rfl⟩
theorem trHall_fine {ms : List Tk} (h : HallOk ms) : (trHall ms).Fine := by
  have talks : ∀ ts : List (Int × Int), (∀ t ∈ ts, TkOk t) → (trTalks ts).Fine := fun ts ht => Tr.fineAll_map trTalk ts fun t hm => by
    have := ht t hm
    unfold TkOk at this
    exact ⟨show t.1.natAbs < 10 ^ 31 by omega, show t.2.natAbs < 10 ^ 31 by omega, trivial⟩
  refine Tr.fineAll_map trTk ms fun m hm => ?_
  have f := h.all m hm
  have := f.lo
  have := f.hi
  exact ⟨f.nm, show m.rank.natAbs < 10 ^ 31 by omega, talks _ f.sc.tp, talks _ f.sc.tc, trivial⟩
/-- hall != [] -/
theorem use_neHall {K : PySem.W.Frag} {H : Hp} {p q : Addr} {ms : List Tk} {xs : List V} {Q : VK} (ok : HallOk ms) (hp : SqL K H p xs) (pr : PySem.Paired (TkAt K H) xs ms) (hq : H q = some (.lst [])) (k : Q (.bl (!ms.isEmpty)) H) : rNeD K (.ref p) (.ref q) H Q := by
  have tr : TrAll K H xs (ms.map trTk) := TrAll.map_of (fun _ _ q => q.tr) pr
  obtain ⟨ds, h1, h2⟩ := TrAll.data _ tr (trHall_fine ok)
  have hd : Tr.depthAll (ms.map trTk) + 1 ≤ 4 := trHall_depth ms
  refine ⟨.list ds, .list [], .lst hp h1, .lst (SqL.of hq) .nil, Bool.and_eq_true_iff.mpr ⟨by rw [PyData.canLay0]; exact h2.lay, decide_eq_true (by rw [PyData.depth, h2.dep]; omega)⟩, by decide, ?_⟩
  have : PyData.eqv (.list ds) (.list []) = ms.isEmpty := by
    cases ms with
    | nil =>
      cases tr
      cases h1
      simp [PyData.eqv, PyData.eqvAll]
    | cons m ms =>
      cases tr with
      | cons a b =>
        cases h1 with
        | cons c d => simp [PyData.eqv, PyData.eqvAll]
  rw [this]
  exact k
theorem show_val {K : PySem.W.Frag} {i : Nat} {σ : L2.St} {H : Hp} {v : V} {z : Str} {Q : VK} (h : σ[i]? = some (some v)) (hz : ShowAt K H v z) (q : Q (.str z) H) : tCB (rRepr K) (tCons (tVar i) tNil) σ H Q :=
  ⟨_, h, hz.use q⟩
theorem Paired.take {α β : Type} {F : α → β → Prop} : ∀ {l : List α} {r : List β} (n : Nat), PySem.Paired F l r → PySem.Paired F (l.take n) (r.take n)
  | _, _, 0, _ => by rw [List.take_zero, List.take_zero]; exact .nil
  | _, _, n + 1, .nil => .nil
  | _, _, n + 1, .cons h t => .cons h (Paired.take n t)
/-! ### a hall as lists of lists, the first of which changes -/
structure Held (K : PySem.W.Frag) (Sc Hc : Hp) (D a p c : Addr) (xs bs : List V) (m : Tk) (rest : List Tk) : Prop where
  top : Hc D = some (.lst (.ref a :: bs))
  cell : Hc a = some (.lst [.str m.name, .int m.rank, .ref p, .ref c])
  pre : Hc p = some (.lst xs)
  prs : PySem.Paired (TalkAt K Sc) xs m.sch.pre
  cyc : TalksAt K Sc (.ref c) m.sch.cyc
  rst : PySem.Paired (TkAt K Sc) bs rest
  da : D ≠ a
  dp : D ≠ p
  ap : a ≠ p
theorem Held.hall {K : PySem.W.Frag} {Sc Hc : Hp} {D a p c : Addr} {xs bs : List V} {m : Tk} {rest : List Tk} (h : Held K Sc Hc D a p c xs bs m rest) (e : Ex Sc Hc) : HallV K Hc (.ref D) (m :: rest) :=
  ⟨D, _, rfl, SqL.of h.top, .cons ⟨a, .ref p, .ref c, rfl, Sq.l h.cell, ⟨p, xs, rfl, Sq.l h.pre, Paired.imp h.prs fun _ _ q => q.ex e⟩, h.cyc.ex e⟩ (Paired.imp h.rst fun _ _ q => q.ex e)⟩
theorem Held.ex {K : PySem.W.Frag} {Sc Hc Sc' Hc' : Hp} {D a p c : Addr} {xs bs : List V} {m : Tk} {rest : List Tk} (h : Held K Sc Hc D a p c xs bs m rest) (e : Ex Hc Hc') (e2 : Ex Sc Sc') : Held K Sc' Hc' D a p c xs bs m rest :=
  ⟨e _ _ h.top, e _ _ h.cell, e _ _ h.pre, Paired.imp h.prs fun _ _ q => q.ex e2, h.cyc.ex e2, Paired.imp h.rst fun _ _ q => q.ex e2, h.da, h.dp, h.ap⟩
theorem Held.all {K : PySem.W.Frag} {Sc Hc : Hp} {D a p c : Addr} {xs bs : List V} {m : Tk} {rest : List Tk} (h : Held K Sc Hc D a p c xs bs m rest) : ∀ l ∈ [D, a, p], Hc l ≠ none := fun l hl => by
  rcases List.mem_cons.mp hl with e | hl
  · rw [e, h.top]; exact fun q => nomatch q
  rcases List.mem_cons.mp hl with e | hl
  · rw [e, h.cell]; exact fun q => nomatch q
  · rw [List.mem_singleton.mp hl, h.pre]; exact fun q => nomatch q
theorem Paired.dropLast {α β : Type} {F : α → β → Prop} : ∀ {l : List α} {r : List β}, PySem.Paired F l r → PySem.Paired F l.dropLast r.dropLast
  | _, _, .nil => .nil
  | _, _, .cons _ .nil => .nil
  | _, _, .cons h (.cons a b) => .cons h (Paired.dropLast (.cons a b))
/-- the last ones -/
theorem cutLast (xs : List V) (n : Nat) (hn : 0 < n) : cutV xs (some (-(n : Int))) none = xs.drop (xs.length - n) := by
  unfold cutV
  have : HT.sIx xs.length 0 (some (-(n : Int))) = xs.length - n := by
    show (if (-(n : Int)) < 0 then (-(n : Int) + (xs.length : Int)).toNat else min (-(n : Int)).toNat xs.length) = _
    rw [if_pos (by omega)]
    omega
  rw [this, HT.sIx_none, List.take_of_length_le (by rw [List.length_drop]; omega)]
theorem Paired.drop {α β : Type} {F : α → β → Prop} : ∀ {l : List α} {r : List β} (n : Nat), PySem.Paired F l r → PySem.Paired F (l.drop n) (r.drop n)
  | _, _, 0, h => by rw [List.drop_zero, List.drop_zero]; exact h
  | _, _, n + 1, .nil => .nil
  | _, _, n + 1, .cons h t => Paired.drop n t
theorem hallOk_sub {ms ks : List Tk} (h : HallOk ms) (s : ks.Sublist ms) : HallOk ks :=
  ⟨fun m hm => h.all m (s.subset hm), Nat.le_trans s.length_le h.len, (s.map _).nodup h.nd⟩
/-- the first one's talks changed -/
theorem hallOk_first {m m' : Tk} {rest : List Tk} (h : HallOk (m :: rest)) (hn : m'.name = m.name) (hf : TkFine m') : HallOk (m' :: rest) :=
  ⟨fun u hu => by
    rcases List.mem_cons.mp hu with e | hu
    · rw [e]; exact hf
    · exact h.all u (List.mem_cons_of_mem _ hu), h.len, by
    have := h.nd
    rw [List.map_cons] at this ⊢
    rw [hn]
    exact this⟩
end HR
namespace HR
open PySem L2
def top (i : Nat) : Stmt := PySem.Challenge.pw_hushranks_k09_ticks_left_and_quiet.main.body.getD i (.Pass ⟨0, 0, 0, 0⟩)
abbrev s_is_integer : Stmt := top 13
abbrev N_is_integer : List Str := ["value", "low", "high"]
theorem sc_is_integer : FnScope N_is_integer ["value", "low", "high"] (C8.fnScope s_is_integer) := C8.fnScope_by (by decide +kernel)
abbrev s_is_sequence : Stmt := top 14
abbrev N_is_sequence : List Str := ["value"]
theorem sc_is_sequence : FnScope N_is_sequence ["value"] (C8.fnScope s_is_sequence) := C8.fnScope_by (by decide +kernel)
abbrev s_is_name : Stmt := top 15
abbrev N_is_name : List Str := ["value", "sign"]
theorem sc_is_name : FnScope N_is_name ["value"] (C8.fnScope s_is_name) := C8.fnScope_by (by decide +kernel)
abbrev s_is_talk : Stmt := top 16
abbrev N_is_talk : List Str := ["value", "part"]
theorem sc_is_talk : FnScope N_is_talk ["value"] (C8.fnScope s_is_talk) := C8.fnScope_by (by decide +kernel)
abbrev s_are_talks : Stmt := top 17
abbrev N_are_talks : List Str := ["value", "least", "one"]
theorem sc_are_talks : FnScope N_are_talks ["value", "least"] (C8.fnScope s_are_talks) := C8.fnScope_by (by decide +kernel)
abbrev s_is_talker : Stmt := top 18
abbrev N_is_talker : List Str := ["value"]
theorem sc_is_talker : FnScope N_is_talker ["value"] (C8.fnScope s_is_talker) := C8.fnScope_by (by decide +kernel)
abbrev s_is_hall : Stmt := top 19
abbrev N_is_hall : List Str := ["value", "one"]
theorem sc_is_hall : FnScope N_is_hall ["value"] (C8.fnScope s_is_hall) := C8.fnScope_by (by decide +kernel)
abbrev s_running_sums : Stmt := top 20
abbrev N_running_sums : List Str := ["numbers", "found", "number"]
theorem sc_running_sums : FnScope N_running_sums ["numbers"] (C8.fnScope s_running_sums) := C8.fnScope_by (by decide +kernel)
abbrev s_Schedule___init__ : Stmt := inClass (top 21) 0
abbrev N_Schedule___init__ : List Str := ["self", "prefix", "cycle", "one"]
theorem sc_Schedule___init__ : FnScope N_Schedule___init__ ["self", "prefix", "cycle"] (C8.fnScope s_Schedule___init__) := C8.fnScope_by (by decide +kernel)
abbrev s_Schedule_sum_of_first : Stmt := inClass (top 21) 2
abbrev N_Schedule_sum_of_first : List Str := ["self", "many", "prefix_sums", "cycle_sums", "rounds", "rest"]
theorem sc_Schedule_sum_of_first : FnScope N_Schedule_sum_of_first ["self", "many", "prefix_sums", "cycle_sums"] (C8.fnScope s_Schedule_sum_of_first) := C8.fnScope_by (by decide +kernel)
abbrev s_Schedule_count_ready : Stmt := inClass (top 21) 4
abbrev N_Schedule_count_ready : List Str := ["self", "quiet", "rounds", "rest", "found", "total"]
theorem sc_Schedule_count_ready : FnScope N_Schedule_count_ready ["self", "quiet"] (C8.fnScope s_Schedule_count_ready) := C8.fnScope_by (by decide +kernel)
abbrev s_Schedule_length_ready : Stmt := inClass (top 21) 5
abbrev N_Schedule_length_ready : List Str := ["self", "quiet"]
theorem sc_Schedule_length_ready : FnScope N_Schedule_length_ready ["self", "quiet"] (C8.fnScope s_Schedule_length_ready) := C8.fnScope_by (by decide +kernel)
abbrev s_Member___init__ : Stmt := inClass (top 22) 0
abbrev N_Member___init__ : List Str := ["self", "talker"]
theorem sc_Member___init__ : FnScope N_Member___init__ ["self", "talker"] (C8.fnScope s_Member___init__) := C8.fnScope_by (by decide +kernel)
abbrev s_checked_hall : Stmt := top 23
abbrev N_checked_hall : List Str := ["hall", "talker"]
theorem sc_checked_hall : FnScope N_checked_hall ["hall"] (C8.fnScope s_checked_hall) := C8.fnScope_by (by decide +kernel)
abbrev s_check_rank : Stmt := top 25
abbrev N_check_rank : List Str := ["value"]
theorem sc_check_rank : FnScope N_check_rank ["value"] (C8.fnScope s_check_rank) := C8.fnScope_by (by decide +kernel)
abbrev s_check_tick : Stmt := top 26
abbrev N_check_tick : List Str := ["value"]
theorem sc_check_tick : FnScope N_check_tick ["value"] (C8.fnScope s_check_tick) := C8.fnScope_by (by decide +kernel)
abbrev s_rank_length : Stmt := top 27
abbrev N_rank_length : List Str := ["members", "rank", "quiet", "member"]
theorem sc_rank_length : FnScope N_rank_length ["members", "rank", "quiet"] (C8.fnScope s_rank_length) := C8.fnScope_by (by decide +kernel)
abbrev s_left_index : Stmt := top 28
abbrev N_left_index : List Str := ["members", "rank", "quiet"]
theorem sc_left_index : FnScope N_left_index ["members", "rank", "quiet"] (C8.fnScope s_left_index) := C8.fnScope_by (by decide +kernel)
abbrev s_quiet_among : Stmt := top 29
abbrev N_quiet_among : List Str := ["members", "rank", "left", "low", "high", "middle"]
theorem sc_quiet_among : FnScope N_quiet_among ["members", "rank", "left"] (C8.fnScope s_quiet_among) := C8.fnScope_by (by decide +kernel)
abbrev s_left_among : Stmt := top 30
abbrev N_left_among : List Str := ["members", "rank", "tick", "left", "higher"]
theorem sc_left_among : FnScope N_left_among ["members", "rank", "tick"] (C8.fnScope s_left_among) := C8.fnScope_by (by decide +kernel)
abbrev s_checked : Stmt := top 31
abbrev N_checked : List Str := ["hall", "rank", "members"]
theorem sc_checked : FnScope N_checked ["hall", "rank"] (C8.fnScope s_checked) := C8.fnScope_by (by decide +kernel)
abbrev s_left_before : Stmt := top 32
abbrev N_left_before : List Str := ["hall", "rank", "tick", "members"]
theorem sc_left_before : FnScope N_left_before ["hall", "rank", "tick"] (C8.fnScope s_left_before) := C8.fnScope_by (by decide +kernel)
abbrev s_quiet_before : Stmt := top 33
abbrev N_quiet_before : List Str := ["hall", "rank", "tick", "members"]
theorem sc_quiet_before : FnScope N_quiet_before ["hall", "rank", "tick"] (C8.fnScope s_quiet_before) := C8.fnScope_by (by decide +kernel)
abbrev s__law_spring : Stmt := top 35
abbrev N__law_spring : List Str := ["_law_script", "_law_digits", "_law_seed", "_law_cell"]
theorem sc__law_spring : FnScope N__law_spring ["_law_script"] (C8.fnScope s__law_spring) := C8.fnScope_by (by decide +kernel)
abbrev s__law_draw : Stmt := top 36
abbrev N__law_draw : List Str := ["_law_spring_here", "_law_many", "_law_found", "_law_mix"]
theorem sc__law_draw : FnScope N__law_draw ["_law_spring_here", "_law_many"] (C8.fnScope s__law_draw) := C8.fnScope_by (by decide +kernel)
abbrev s__law_talks : Stmt := top 37
abbrev N__law_talks : List Str := ["_law_spring_here", "_law_least", "_law_more", "_law_longest", "_law_many", "_law_k"]
theorem sc__law_talks : FnScope N__law_talks ["_law_spring_here", "_law_least", "_law_more", "_law_longest"] (C8.fnScope s__law_talks) := C8.fnScope_by (by decide +kernel)
abbrev s__law_hall : Stmt := top 38
abbrev N__law_hall : List Str := ["_law_spring_here", "_law_talkers", "_law_longest", "_law_names", "_law_ranks", "_law_found", "_law_k", "_law_name", "_law_prefix", "_law_cycle"]
theorem sc__law_hall : FnScope N__law_hall ["_law_spring_here", "_law_talkers", "_law_longest"] (C8.fnScope s__law_hall) := C8.fnScope_by (by decide +kernel)
abbrev s__law_dressed : Stmt := top 39
abbrev N__law_dressed : List Str := ["_law_spring_here", "_law_value", "_law_parts", "_law_part"]
theorem sc__law_dressed : FnScope N__law_dressed ["_law_spring_here", "_law_value"] (C8.fnScope s__law_dressed) := C8.fnScope_by (by decide +kernel)
abbrev s__law_nth : Stmt := top 40
abbrev N__law_nth : List Str := ["_law_talker", "_law_index", "_law_prefix", "_law_cycle"]
theorem sc__law_nth : FnScope N__law_nth ["_law_talker", "_law_index"] (C8.fnScope s__law_nth) := C8.fnScope_by (by decide +kernel)
abbrev s__law_run : Stmt := top 41
abbrev N__law_run : List Str := ["_law_hall_here", "_law_count", "_law_now", "_law_k", "_law_talker", "_law_found", "_law_tick", "_law_order", "_law_best", "_law_states", "_law_part"]
theorem sc__law_run : FnScope N__law_run ["_law_hall_here", "_law_count"] (C8.fnScope s__law_run) := C8.fnScope_by (by decide +kernel)
abbrev s__law_right : Stmt := top 42
abbrev N__law_right : List Str := ["_law_hall_here", "_law_handed", "_law_rank", "_law_ranks", "_law_left", "_law_quiet", "_law_tick", "_law_row", "_law_found", "_law_speaking", "_law_talker"]
theorem sc__law_right : FnScope N__law_right ["_law_hall_here", "_law_handed", "_law_rank"] (C8.fnScope s__law_right) := C8.fnScope_by (by decide +kernel)
abbrev s_law : Stmt := top 43
abbrev N_law : List Str := ["_law_script", "_law_spring_here", "_law_turn", "_law_hall_here", "_law_handed", "_law_before", "_law_rank", "_law_held", "_law_talker", "_law_name", "_law_prefix", "_law_cycle"]
theorem sc_law : FnScope N_law ["_law_script"] (C8.fnScope s_law) := C8.fnScope_by (by decide +kernel)
/-- what the top has left, as far as the law wants it -/
structure Txt (K : PySem.W.Frag) (mg : Str → Option Value) (C : String → Addr) : Prop where
  b_ValueError : mg "ValueError" = none
  b_abs : mg "abs" = none
  b_all : mg "all" = none
  b_bool : mg "bool" = none
  b_dict : mg "dict" = none
  b_divmod : mg "divmod" = none
  b_enumerate : mg "enumerate" = none
  b_int : mg "int" = none
  b_isinstance : mg "isinstance" = none
  b_len : mg "len" = none
  b_list : mg "list" = none
  b_min : mg "min" = none
  b_range : mg "range" = none
  b_repr : mg "repr" = none
  b_set : mg "set" = none
  b_sorted : mg "sorted" = none
  b_str : mg "str" = none
  b_sum : mg "sum" = none
  b_tuple : mg "tuple" = none
  k_LETTERS : ∃ u, mg "LETTERS" = some u ∧ RelV (.str "abcdefghijklmnopqrstuvwxyz") u
  k_MAX_NAME : ∃ u, mg "MAX_NAME" = some u ∧ RelV (.int (8)) u
  k_MAX_TIME : ∃ u, mg "MAX_TIME" = some u ∧ RelV (.int (10 ^ 30)) u
  k_MAX_RANK : ∃ u, mg "MAX_RANK" = some u ∧ RelV (.int (10)) u
  k_MAX_TALKS : ∃ u, mg "MAX_TALKS" = some u ∧ RelV (.int (8)) u
  k_MAX_TALKERS : ∃ u, mg "MAX_TALKERS" = some u ∧ RelV (.int (10)) u
  f_is_integer : DefD K mg "is_integer" s_is_integer ["value", "low", "high"] [.non]
  f_is_sequence : DefE K mg "is_sequence" s_is_sequence ["value"]
  f_is_name : DefE K mg "is_name" s_is_name ["value"]
  f_is_talk : DefE K mg "is_talk" s_is_talk ["value"]
  f_are_talks : DefE K mg "are_talks" s_are_talks ["value", "least"]
  f_is_talker : DefE K mg "is_talker" s_is_talker ["value"]
  f_is_hall : DefE K mg "is_hall" s_is_hall ["value"]
  f_running_sums : DefE K mg "running_sums" s_running_sums ["numbers"]
  i_Schedule : MakE K mg (C "Schedule") "Schedule" "Schedule.__init__" s_Schedule___init__ ["self", "prefix", "cycle"]
  m_Schedule_sum_of_first : MethE K (C "Schedule") "sum_of_first" "Schedule.sum_of_first" s_Schedule_sum_of_first ["self", "many", "prefix_sums", "cycle_sums"]
  m_Schedule_count_ready : MethE K (C "Schedule") "count_ready" "Schedule.count_ready" s_Schedule_count_ready ["self", "quiet"]
  m_Schedule_length_ready : MethE K (C "Schedule") "length_ready" "Schedule.length_ready" s_Schedule_length_ready ["self", "quiet"]
  i_Member : MakE K mg (C "Member") "Member" "Member.__init__" s_Member___init__ ["self", "talker"]
  f_checked_hall : DefE K mg "checked_hall" s_checked_hall ["hall"]
  f_check_rank : DefE K mg "check_rank" s_check_rank ["value"]
  f_check_tick : DefE K mg "check_tick" s_check_tick ["value"]
  f_rank_length : DefE K mg "rank_length" s_rank_length ["members", "rank", "quiet"]
  f_left_index : DefE K mg "left_index" s_left_index ["members", "rank", "quiet"]
  f_quiet_among : DefE K mg "quiet_among" s_quiet_among ["members", "rank", "left"]
  f_left_among : DefE K mg "left_among" s_left_among ["members", "rank", "tick"]
  f_checked : DefE K mg "checked" s_checked ["hall", "rank"]
  f_left_before : DefE K mg "left_before" s_left_before ["hall", "rank", "tick"]
  f_quiet_before : DefE K mg "quiet_before" s_quiet_before ["hall", "rank", "tick"]
  f__law_spring : DefE K mg "_law_spring" s__law_spring ["_law_script"]
  f__law_draw : DefE K mg "_law_draw" s__law_draw ["_law_spring_here", "_law_many"]
  f__law_talks : DefE K mg "_law_talks" s__law_talks ["_law_spring_here", "_law_least", "_law_more", "_law_longest"]
  f__law_hall : DefE K mg "_law_hall" s__law_hall ["_law_spring_here", "_law_talkers", "_law_longest"]
  f__law_dressed : DefE K mg "_law_dressed" s__law_dressed ["_law_spring_here", "_law_value"]
  f__law_nth : DefE K mg "_law_nth" s__law_nth ["_law_talker", "_law_index"]
  f__law_run : DefE K mg "_law_run" s__law_run ["_law_hall_here", "_law_count"]
  f__law_right : DefE K mg "_law_right" s__law_right ["_law_hall_here", "_law_handed", "_law_rank"]
  c_Schedule : Cls K (C "Schedule")
  c_Member : Cls K (C "Member")
  n_Schedule_prefix : NoAttr K (C "Schedule") "prefix"
  n_Schedule_cycle : NoAttr K (C "Schedule") "cycle"
  n_Schedule_prefix_silences : NoAttr K (C "Schedule") "prefix_silences"
  n_Schedule_prefix_lengths : NoAttr K (C "Schedule") "prefix_lengths"
  n_Schedule_cycle_silences : NoAttr K (C "Schedule") "cycle_silences"
  n_Schedule_cycle_lengths : NoAttr K (C "Schedule") "cycle_lengths"
  n_Member_name : NoAttr K (C "Member") "name"
  n_Member_rank : NoAttr K (C "Member") "rank"
  n_Member_schedule : NoAttr K (C "Member") "schedule"
end HR
namespace HR
open PySem L2
section
variable {P : Program} {w : World} {K : PySem.W.Frag} {mg : Str → Option Value} {base : Heap} {C : String → Addr}
/-- a value that may be asked whether it is an int -/
def IntAsk (K : PySem.W.Frag) (H : Hp) (v : V) : Prop := (∃ i, v = .int i) ∨ (∃ b, v = .bl b) ∨ ∃ t, TyX K H v t ∧ PySem.W.kitOne K t (.type "int") = some false ∧ ∀ i, v ≠ .int i
def isIntB (lo : Int) (hi : Option Int) : V → Bool
  | .int i => decide (lo ≤ i) && (hi.isNone || decide (i ≤ hi.getD 0))
  | _ => false
def oV : Option Int → V
  | none => .non
  | some i => .int i
def sp_is_integer (K : PySem.W.Frag) : Sp := Spec (α := V × Int × Option Int) (fun x => [x.1, .int x.2.1, oV x.2.2]) fun x H Q => IntAsk K H x.1 ∧ Q (.bl (isIntB x.2.1 x.2.2 x.1)) H
theorem kit_int_int : PySem.W.kitOne K (.type "int") (.type "int") = some true := kit_ty (by decide +kernel)
theorem kit_int_bool : PySem.W.kitOne K (.type "int") (.type "bool") = some false := kit_ty (by decide +kernel)
theorem kit_bool_int : PySem.W.kitOne K (.type "bool") (.type "int") = some true := kit_ty (by decide +kernel)
theorem kit_bool_bool : PySem.W.kitOne K (.type "bool") (.type "bool") = some true := kit_ty (by decide +kernel)
theorem CC_is_integer (T : Txt K mg C) : C8.Cal P w K mg base 1 "is_integer" (sp_is_integer K) [] ∧ C8.Cal P w K mg base 1 "is_integer" (sp_is_integer K) [.non] :=
  cal_ofD T.f_is_integer sc_is_integer (fun _ => rfl) fun f cdv A outer s H x Q E hr h => by
    obtain ⟨v, lo, hi⟩ := x
    dsimp only at h ⊢
    obtain ⟨h1, k⟩ := h
    refine ⟨_, (pss_cons (ps_if (PW.pt (pw_or (pt_not (pt_val (pe_callB (kisi K rfl) (by rfl) T.b_isinstance bt_isinstance (pa_cons (pv 0) (pa_cons (pe_bltn (v := .ty "int") (by rfl) T.b_int bt_int rfl) pa_nil))))) (pw_or1 (pt_val (pe_callB (kisi K rfl) (by rfl) T.b_isinstance bt_isinstance (pa_cons (pv 0) (pa_cons (pe_bltn (v := .ty "bool") (by rfl) T.b_bool bt_bool rfl) pa_nil))))))) (pss_one (ps_ret pe_bl)) pss_nil)
    (pss_one (ps_ret (pe_and (pe_cmpR op_ge (pv 0) (pv 1) (nomark _)) (pe_one (pe_or (pe_cmpR op_isN (pv 2) pe_non (nomark _)) (pe_one (pe_cmpR op_le (pv 0) (pv 2) (nomark _))))))))), ?_⟩
    rcases h1 with ⟨i, rfl⟩ | ⟨b, rfl⟩ | ⟨t, ty, kt, nv⟩
    · refine ⟨_, rfl, _, .ty "int", _, _, true, rfl, .ty _, .base (.int i), kit_int_int, _, rfl, _, rfl, _, .ty "bool", _, _, false, rfl, .ty _, .base (.int i), kit_int_bool, _, rfl, ?_⟩
      refine ⟨_, rfl, _, rfl, _, _, rfl, rfl, _, rfl, ?_⟩
      by_cases hlo : lo ≤ i
      · rw [decide_eq_true hlo]
        refine ⟨_, rfl, rfl, _, rfl, ?_⟩
        cases hi with
        | none =>
          show Q (.bl true) H
          simpa [isIntB, hlo] using k
        | some j =>
          refine ⟨_, rfl, _, rfl, _, _, rfl, rfl, ?_⟩
          simpa [isIntB, hlo] using k
      · rw [decide_eq_false hlo]
        show Q (.bl false) H
        simpa [isIntB, hlo] using k
    · refine ⟨_, rfl, _, .ty "int", _, _, true, rfl, .ty _, .base (.bl b), kit_bool_int, _, rfl, _, rfl, _, .ty "bool", _, _, true, rfl, .ty _, .base (.bl b), kit_bool_bool, _, rfl, ?_⟩
      exact k
    · refine ⟨_, rfl, _, .ty "int", _, _, false, rfl, .ty _, ty, kt, _, rfl, ?_⟩
      have e : isIntB lo hi v = false := by
        cases v with
        | int i => exact absurd rfl (nv i)
        | _ => rfl
      show Q (.bl false) H
      rw [← e]
      exact k
theorem C_is_integer (T : Txt K mg C) : C8.Cal P w K mg base 1 "is_integer" (sp_is_integer K) [] := (CC_is_integer T).1
theorem C_is_integer_d2 (T : Txt K mg C) : C8.Cal P w K mg base 1 "is_integer" (sp_is_integer K) [.non] := (CC_is_integer T).2
end
end HR
namespace HR
open PySem L2
section
variable {P : Program} {w : World} {K : PySem.W.Frag} {mg : Str → Option Value} {base : Heap} {C : String → Addr}
/-- the value, its type, the answer -/
def sp_is_sequence (K : PySem.W.Frag) : Sp := Spec (α := V × Value × Bool) (fun x => [x.1]) fun x H Q => TyX K H x.1 x.2.1 ∧ PySem.W.kitAny K x.2.1 [.type "list", .type "tuple"] = some x.2.2 ∧ ∀ H', Ex H H' → Q (.bl x.2.2) H'
theorem C_is_sequence (T : Txt K mg C) : C8.Cal P w K mg base 1 "is_sequence" (sp_is_sequence K) [] :=
  cal_of T.f_is_sequence sc_is_sequence (fun _ => rfl) fun f cdv A outer s H x Q E hr h => by
    obtain ⟨v, t, b⟩ := x
    dsimp only at h ⊢
    obtain ⟨h1, h2, k⟩ := h
    refine ⟨_, (pss_one (ps_ret (pe_callB (kisiT K rfl) (by rfl) T.b_isinstance bt_isinstance (pa_cons (pv 0) (pa_cons (pe_tup (pa_cons (pe_bltn (v := .ty "list") (by rfl) T.b_list bt_list rfl) (pa_cons (pe_bltn (v := .ty "tuple") (by rfl) T.b_tuple bt_tuple rfl) pa_nil))) pa_nil))))), ?_⟩
    refine ⟨_, rfl, by decide, fun p np => ⟨v, p, _, t, _, b, rfl, upd_same, .cons (.ty _) (.cons (.ty _) .nil), TyX.ex (Ex.new np) h1, h2, k _ (Ex.new np)⟩⟩
end
end HR
namespace HR
open PySem L2
section
variable {P : Program} {w : World} {K : PySem.W.Frag} {mg : Str → Option Value} {base : Heap} {C : String → Addr}
theorem letters_eq : ("abcdefghijklmnopqrstuvwxyz" : Str).cps.toList = (List.range 26).map (97 + ·) := by decide +kernel
theorem letters_mem {c : Nat} (h1 : 97 ≤ c) (h2 : c ≤ 122) : c ∈ ("abcdefghijklmnopqrstuvwxyz" : Str).cps.toList := by
  rw [letters_eq, List.mem_map]
  exact ⟨c - 97, List.mem_range.mpr (by omega), by omega⟩
theorem kit_str_str : PySem.W.kitOne K (.type "str") (.type "str") = some true := kit_ty (by decide +kernel)
theorem all_true {α : Type} (l : List α) : (l.map fun _ => true).all id = true := by simp
def sp_is_name : Sp := Spec (α := Str) (fun x => [.str x]) fun x H Q => NameOk x ∧ ∀ H', Ex H H' → Q (.bl true) H'
theorem C_is_name (T : Txt K mg C) : C8.Cal P w K mg base 1 "is_name" sp_is_name [] :=
  cal_of T.f_is_name sc_is_name (fun _ => rfl) fun f cdv A outer s H z Q E hr h => by
    obtain ⟨⟨h1, h2, h3⟩, k⟩ := h
    refine ⟨_, (pss_one (ps_ret (pe_and (pe_callB (kisi K rfl) (by rfl) T.b_isinstance bt_isinstance (pa_cons (pv 0) (pa_cons (pe_bltn (v := .ty "str") (by rfl) T.b_str bt_str rfl) pa_nil))) (pe_and (pe_chain op_le op_le pe_int (pe_callB call_len_str (by rfl) T.b_len bt_len (pa_cons (pv 0) pa_nil)) (C8.pe_gc (by rfl) T.k_MAX_NAME)) (pe_one (pe_callB (kall K rfl) (by rfl) T.b_all bt_all (pa_cons (pe_lc (own := [("sign", 1)]) rfl sc_is_name.nd (pi_str (pv 0)) (blkOk_by (own := [("sign", 1)]) (N := N_is_name) (sc := C8.fnScope s_is_name) (by decide +kernel)) (fun _ _ _ _ _ => (pg_name (i := 1) sc_is_name.nd rfl (.inl rfl))) (fun _ _ _ _ _ => pts_nil) (fun _ _ _ _ _ => (pe_cmpR op_in_sign (pv 1) (C8.pe_gc (by rfl) T.k_LETTERS) rfl))) pa_nil))))))), ?_⟩
    have hz : z.length ≤ sizeLine := by unfold sizeLine; omega
    refine ⟨_, rfl, _, .ty "str", _, _, true, rfl, .ty _, .base (.str z), kit_str_str, true, rfl, ?_⟩
    refine ⟨_, rfl, z, rfl, hz, _, _, rfl, rfl, true, congrArg V.bl (decide_eq_true (by omega)), _, _, rfl, rfl, true, congrArg V.bl (decide_eq_true (by omega)), ?_⟩
    refine iteT (cb1 ?_)
    refine lcStr (fun _ => .bl true) (fun Q' q => ⟨_, rfl, q⟩) (by omega) (fun c hc H' e C Cn q => ⟨rfl, ?_⟩) fun D H' hD e hd => ?_
    · refine ⟨_, rfl, c, _, rfl, rfl, ?_⟩
      have hm := letters_mem (h3 c hc).1 (h3 c hc).2
      rw [decide_eq_true hm]
      exact q H' (Ex.refl _)
    · refine ⟨D, z.cps.toList.map fun _ => true, rfl, SqL.of (by rw [hd, List.map_map]; rfl), ?_⟩
      rw [all_true]
      exact k H' e
end
end HR
namespace HR
open PySem L2
section
variable {P : Program} {w : World} {K : PySem.W.Frag} {mg : Str → Option Value} {base : Heap} {C : String → Addr}
def sp_is_talk (K : PySem.W.Frag) : Sp := Spec (α := V × (Int × Int)) (fun x => [x.1]) fun x H Q => TalkAt K H x.1 x.2 ∧ TkOk x.2 ∧ ∀ H', Ex H H' → Q (.bl true) H'
theorem C_is_talk (T : Txt K mg C) : C8.Cal P w K mg base 2 "is_talk" (sp_is_talk K) [] :=
  cal_of T.f_is_talk sc_is_talk (fun _ => rfl) fun f cdv A outer s H x Q E hr h => by
    obtain ⟨v, t⟩ := x
    dsimp only at h ⊢
    obtain ⟨⟨a, rfl, hs⟩, ⟨h1, h2, h3, h4⟩, k⟩ := h
    refine ⟨_, (pss_one (ps_ret (pe_and (C8.pe_c (C_is_sequence T) hr (by omega) (by rfl) (pa_cons (pv 0) pa_nil)) (pe_and (pe_cmpR op_eq (pe_callB (klen K rfl) (by rfl) T.b_len bt_len (pa_cons (pv 0) pa_nil)) pe_int (nomark _)) (pe_one (pe_callB (kall K rfl) (by rfl) T.b_all bt_all (pa_cons (pe_lc (own := [("part", 1)]) rfl sc_is_talk.nd (kpi_any K rfl (pv 0)) (blkOk_by (own := [("part", 1)]) (N := N_is_talk) (sc := C8.fnScope s_is_talk) (by decide +kernel)) (fun _ _ _ _ _ => (pg_name (i := 1) sc_is_talk.nd rfl (.inl rfl))) (fun _ _ _ _ _ => pts_nil) (fun _ _ _ _ _ => (C8.pe_c (C_is_integer T) hr (by omega) (by rfl) (pa_cons (pv 1) (pa_cons pe_int (pa_cons (C8.pe_gc (by rfl) T.k_MAX_TIME) pa_nil)))))) pa_nil))))))), ?_⟩
    obtain ⟨ty, ht, hk⟩ := hs.ty
    refine ⟨_, rfl, (.ref a, ty, true), rfl, ht, hk, fun H1 e1 => ⟨true, rfl, ?_⟩⟩
    refine ⟨_, rfl, a, _, rfl, hs.ex e1, rfl, true, rfl, ?_⟩
    refine iteT (cb1 ?_)
    refine lcV (as := [t.1, t.2]) (fun x i => x = .int i ∧ 1 ≤ i ∧ i ≤ 10 ^ 30) (fun _ => true) (fun _ => .bl true) (fun Q' q => ⟨_, rfl, q⟩) (hs.ex e1) (.cons ⟨rfl, h1, h2⟩ (.cons ⟨rfl, h3, h4⟩ .nil)) (by simp)
      (fun i x b H' e _ _ hb C Cn q _ => ⟨rfl, ?_⟩) fun D H' hD e hd => ?_
    · obtain ⟨rfl, b1, b2⟩ := hb
      refine ⟨_, rfl, (.int b, 1, some (10 ^ 30)), rfl, .inl ⟨b, rfl⟩, ?_⟩
      have e1 : isIntB 1 (some (10 ^ 30)) (.int b) = true := by simp [isIntB, b1]; exact b2
      show C (.bl (isIntB 1 (some (10 ^ 30)) (.int b))) H'
      rw [e1]
      exact q rfl H' (Ex.refl _)
    · refine ⟨D, [true, true], rfl, SqL.of hd, ?_⟩
      exact k H' (e1.trans e)
end
end HR
namespace HR
open PySem L2
section
variable {P : Program} {w : World} {K : PySem.W.Frag} {mg : Str → Option Value} {base : Heap} {C : String → Addr}
def sp_are_talks (K : PySem.W.Frag) : Sp := Spec (α := V × Int × List (Int × Int)) (fun x => [x.1, .int x.2.1]) fun x H Q => TalksAt K H x.1 x.2.2 ∧ (∀ t ∈ x.2.2, TkOk t) ∧ x.2.1 ≤ x.2.2.length ∧ x.2.2.length ≤ 8 ∧ ∀ H', Ex H H' → Q (.bl true) H'
theorem C_are_talks (T : Txt K mg C) : C8.Cal P w K mg base 3 "are_talks" (sp_are_talks K) [] :=
  cal_of T.f_are_talks sc_are_talks (fun _ => rfl) fun f cdv A outer s H x Q E hr h => by
    obtain ⟨v, lo, ts⟩ := x
    dsimp only at h ⊢
    obtain ⟨⟨a, xs, rfl, hs, hp⟩, h1, h2, h3, k⟩ := h
    have hl := Paired.len hp
    refine ⟨_, (pss_one (ps_ret (pe_and (C8.pe_c (C_is_sequence T) hr (by omega) (by rfl) (pa_cons (pv 0) pa_nil)) (pe_and (pe_chain op_le op_le (pv 1) (pe_callB (klen K rfl) (by rfl) T.b_len bt_len (pa_cons (pv 0) pa_nil)) (C8.pe_gc (by rfl) T.k_MAX_TALKS)) (pe_one (pe_callB (kall K rfl) (by rfl) T.b_all bt_all (pa_cons (pe_lc (own := [("one", 2)]) rfl sc_are_talks.nd (kpi_any K rfl (pv 0)) (blkOk_by (own := [("one", 2)]) (N := N_are_talks) (sc := C8.fnScope s_are_talks) (by decide +kernel)) (fun _ _ _ _ _ => (pg_name (i := 2) sc_are_talks.nd rfl (.inl rfl))) (fun _ _ _ _ _ => pts_nil) (fun _ _ _ _ _ => (C8.pe_c (C_is_talk T) hr (by omega) (by rfl) (pa_cons (pv 2) pa_nil)))) pa_nil))))))), ?_⟩
    obtain ⟨ty, ht, hk⟩ := hs.ty
    refine ⟨_, rfl, (.ref a, ty, true), rfl, ht, hk, fun H1 e1 => ⟨true, rfl, ?_⟩⟩
    refine ⟨_, rfl, _, rfl, a, _, rfl, hs.ex e1, _, _, rfl, rfl, true, congrArg V.bl (decide_eq_true (by omega)), _, _, rfl, rfl, true, congrArg V.bl (decide_eq_true (by omega)), ?_⟩
    refine iteT (cb1 ?_)
    refine lcV (as := ts) (fun x t => TalkAt K H x t) (fun _ => true) (fun _ => .bl true) (fun Q' q => ⟨_, rfl, q⟩) (hs.ex e1) hp (by omega)
      (fun i x b H' e hi hb hr C Cn q _ => ⟨rfl, ?_⟩) fun D H' hD e hd => ?_
    · exact ⟨_, rfl, (x, b), rfl, hr.ex (e1.trans e), h1 b (List.mem_of_getElem? hb), fun H2 e2 => q rfl H2 e2⟩
    · rw [filter_true] at hd
      refine ⟨D, ts.map fun _ => true, rfl, SqL.of (by rw [hd, List.map_map]; rfl), ?_⟩
      rw [all_true]
      exact k H' (e1.trans e)
end
end HR
namespace HR
open PySem L2
section
variable {P : Program} {w : World} {K : PySem.W.Frag} {mg : Str → Option Value} {base : Heap} {C : String → Addr}
def sp_is_talker (K : PySem.W.Frag) : Sp := Spec (α := V × Tk) (fun x => [x.1]) fun x H Q => TkAt K H x.1 x.2 ∧ TkFine x.2 ∧ ∀ H', Ex H H' → Q (.bl true) H'
theorem C_is_talker (T : Txt K mg C) : C8.Cal P w K mg base 4 "is_talker" (sp_is_talker K) [] :=
  cal_of T.f_is_talker sc_is_talker (fun _ => rfl) fun f cdv A outer s H x Q E hr h => by
    obtain ⟨v, m⟩ := x
    dsimp only at h ⊢
    obtain ⟨⟨a, p, c, rfl, hs, hp, hc⟩, ok, k⟩ := h
    refine ⟨_, (pss_cons (ps_if (PW.pt (pw_or (pt_not (pt_val (C8.pe_c (C_is_sequence T) hr (by omega) (by rfl) (pa_cons (pv 0) pa_nil)))) (pw_or (pt_cmpR op_ne (pe_callB (klen K rfl) (by rfl) T.b_len bt_len (pa_cons (pv 0) pa_nil)) pe_int (nomark _)) (pw_or1 (pt_not (pt_val (C8.pe_c (C_is_name T) hr (by omega) (by rfl) (pa_cons (pe_ix (kix_any K rfl) (pv 0) pe_int (fun _ _ => rfl)) pa_nil)))))))) (pss_one (ps_ret pe_bl)) pss_nil)
    (pss_one (ps_ret (pe_and (C8.pe_c (C_is_integer T) hr (by omega) (by rfl) (pa_cons (pe_ix (kix_any K rfl) (pv 0) pe_int (fun _ _ => rfl)) (pa_cons pe_int (pa_cons (C8.pe_gc (by rfl) T.k_MAX_RANK) pa_nil)))) (pe_and (C8.pe_c (C_are_talks T) hr (by omega) (by rfl) (pa_cons (pe_ix (kix_any K rfl) (pv 0) pe_int (fun _ _ => rfl)) (pa_cons pe_int pa_nil))) (pe_one (C8.pe_c (C_are_talks T) hr (by omega) (by rfl) (pa_cons (pe_ix (kix_any K rfl) (pv 0) pe_int (fun _ _ => rfl)) (pa_cons pe_int pa_nil))))))))), ?_⟩
    obtain ⟨ty, ht, hk⟩ := hs.ty
    refine ⟨_, rfl, (.ref a, ty, true), rfl, ht, hk, fun H1 e1 => ⟨true, rfl, ?_⟩⟩
    refine ⟨_, rfl, a, _, rfl, hs.ex e1, rfl, false, rfl, ?_⟩
    refine ⟨_, rfl, a, _, 0, _, rfl, rfl, hs.ex e1, rfl, m.name, rfl, ok.nm, fun H2 e2 => ⟨true, rfl, ?_⟩⟩
    refine ⟨_, rfl, a, _, 1, _, rfl, rfl, hs.ex (e1.trans e2), rfl, (.int m.rank, 1, some 10), rfl, .inl ⟨_, rfl⟩, true, ?_, ?_⟩
    · have b1 := ok.lo
      have b2 := ok.hi
      simp [isIntB, b1, b2]
    refine ⟨_, rfl, a, _, 2, _, rfl, rfl, hs.ex (e1.trans e2), rfl, (p, 0, m.sch.pre), rfl, hp.ex (e1.trans e2), ok.sc.tp, by simp, ok.sc.lp, fun H3 e3 => ⟨true, rfl, ?_⟩⟩
    have e13 := (e1.trans e2).trans e3
    refine ⟨_, rfl, a, _, 3, _, rfl, rfl, hs.ex e13, rfl, (c, 1, m.sch.cyc), rfl, hc.ex e13, ok.sc.tc, by have := ok.sc.pos; simp; omega, ok.sc.lc, fun H4 e4 => ?_⟩
    exact k H4 (e13.trans e4)
end
end HR
namespace HR
open PySem L2
section
variable {P : Program} {w : World} {K : PySem.W.Frag} {mg : Str → Option Value} {base : Heap} {C : String → Addr}
def sp_is_hall (K : PySem.W.Frag) : Sp := Spec (α := V × List Tk) (fun x => [x.1]) fun x H Q => HallAt K H x.1 x.2 ∧ HallOk x.2 ∧ ∀ H', Ex H H' → Q (.bl true) H'
theorem C_is_hall (T : Txt K mg C) : C8.Cal P w K mg base 5 "is_hall" (sp_is_hall K) [] :=
  cal_of T.f_is_hall sc_is_hall (fun _ => rfl) fun f cdv A outer s H x Q E hr h => by
    obtain ⟨v, ms⟩ := x
    dsimp only at h ⊢
    obtain ⟨⟨a, xs, rfl, hs, hp⟩, ok, k⟩ := h
    have hl := Paired.len hp
    have h10 := ok.len
    refine ⟨_, (pss_cons (ps_if (PW.pt (pw_or (pt_not (pt_val (C8.pe_c (C_is_sequence T) hr (by omega) (by rfl) (pa_cons (pv 0) pa_nil)))) (pw_or (pt_cmpR op_gt (pe_callB (klen K rfl) (by rfl) T.b_len bt_len (pa_cons (pv 0) pa_nil)) (C8.pe_gc (by rfl) T.k_MAX_TALKERS) (nomark _)) (pw_or1 (pt_not (pt_val (pe_callB (kall K rfl) (by rfl) T.b_all bt_all (pa_cons (pe_lc (own := [("one", 1)]) rfl sc_is_hall.nd (kpi_any K rfl (pv 0)) (blkOk_by (own := [("one", 1)]) (N := N_is_hall) (sc := C8.fnScope s_is_hall) (by decide +kernel)) (fun _ _ _ _ _ => (pg_name (i := 1) sc_is_hall.nd rfl (.inl rfl))) (fun _ _ _ _ _ => pts_nil) (fun _ _ _ _ _ => (C8.pe_c (C_is_talker T) hr (by omega) (by rfl) (pa_cons (pv 1) pa_nil)))) pa_nil)))))))) (pss_one (ps_ret pe_bl)) pss_nil)
    (pss_one (ps_ret (pe_cmpR op_eq (klenSet K rfl (by rfl) T.b_len (by rfl) T.b_set (pe_lc (own := [("one", 1)]) rfl sc_is_hall.nd (kpi_any K rfl (pv 0)) (blkOk_by (own := [("one", 1)]) (N := N_is_hall) (sc := C8.fnScope s_is_hall) (by decide +kernel)) (fun _ _ _ _ _ => (pg_name (i := 1) sc_is_hall.nd rfl (.inl rfl))) (fun _ _ _ _ _ => pts_nil) (fun _ _ _ _ _ => (pe_ix (kix_any K rfl) (pv 1) pe_int (fun _ _ => rfl))))) (pe_callB (klen K rfl) (by rfl) T.b_len bt_len (pa_cons (pv 0) pa_nil)) (nomark _))))), ?_⟩
    obtain ⟨ty, ht, hk⟩ := hs.ty
    refine ⟨_, rfl, (.ref a, ty, true), rfl, ht, hk, fun H1 e1 => ⟨true, rfl, ?_⟩⟩
    refine ⟨_, rfl, a, _, rfl, hs.ex e1, _, _, rfl, rfl, false, congrArg V.bl (decide_eq_false (by omega)), cb1 ?_⟩
    refine lcV (as := ms) (fun x t => TkAt K H x t) (fun _ => true) (fun _ => .bl true) (fun Q' q => ⟨_, rfl, q⟩) (hs.ex e1) hp (by omega)
      (fun i x b H' e hi hb hr C Cn q _ => ⟨rfl, ?_⟩) fun D H' hD e hd => ?_
    · exact ⟨_, rfl, (x, b), rfl, hr.ex (e1.trans e), ok.all b (List.mem_of_getElem? hb), fun H2 e2 => q rfl H2 e2⟩
    · rw [filter_true] at hd
      refine ⟨D, ms.map fun _ => true, rfl, SqL.of (by rw [hd, List.map_map]; rfl), ?_⟩
      rw [all_true]
      have e2 := e1.trans e
      refine ⟨true, rfl, iteF (next1 ?_)⟩
      dsimp only
      refine ret1 (op1 ?_)
      show tLenSetX _ _ _ _ _
      unfold tLenSetX
      refine lcV (as := ms) (fun x t => TkAt K H x t) (fun _ => true) (fun t => .str t.name) (fun Q' q => ⟨_, rfl, q⟩) (hs.ex e2) hp (by omega)
        (fun i x b H' e hi hb hr C Cn q _ => ⟨rfl, ?_⟩) fun D2 H3 hD2 e3 hd2 => ?_
      · obtain ⟨a2, p2, c2, rfl, hs2, _, _⟩ := hr.ex (e2.trans e)
        exact ⟨_, rfl, a2, _, 0, _, rfl, rfl, hs2, rfl, q rfl _ (Ex.refl _)⟩
      · rw [filter_true] at hd2
        refine ⟨D2, ms.map (·.name), rfl, SqL.of (by rw [hd2, List.map_map]; rfl), ok.nd, by rw [List.length_map]; omega, ?_⟩
        refine ⟨_, rfl, a, _, rfl, hs.ex (e2.trans e3), rfl, ?_⟩
        rw [List.length_map, hl, decide_eq_true rfl]
        exact k _ (e2.trans e3)
end
end HR
namespace HR
open PySem L2
section
variable {P : Program} {w : World} {K : PySem.W.Frag} {mg : Str → Option Value} {base : Heap} {C : String → Addr}
def sp_running_sums (K : PySem.W.Frag) : Sp := Spec (α := Addr × List Int) (fun x => [.ref x.1]) fun x H Q => Sq K H x.1 (x.2.map V.int) ∧ x.2.length < 1000000 ∧ ∀ p H', H p = none → Ex H H' → H' p = some (.lst ((rs x.2).map V.int)) → Q (.ref p) H'
theorem C_running_sums (T : Txt K mg C) : C8.Cal P w K mg base 1 "running_sums" (sp_running_sums K) [] :=
  cal_of T.f_running_sums sc_running_sums (fun _ => rfl) fun f cdv A outer s H x Q E hr h => by
    obtain ⟨a, ns⟩ := x
    dsimp only at h ⊢
    obtain ⟨hs, hlen, k⟩ := h
    refine ⟨_, (pss_cons (ps_set (i := 1) sc_running_sums.nd rfl (.inl rfl) (pe_lst (pa_cons pe_int pa_nil)))
    (pss_cons (ps_for PassesOwn.never rfl (kpi_any K rfl (pv 0)) (pg_name (i := 2) sc_running_sums.nd rfl (.inl rfl)) (pss_one (ps_expr (kbm K rfl PySem.F.plainAttrs_list PySem.F.slot_list_append PySem.F.type_list_append mt_append (pv 1) (pa_cons (pe_op op_add (pe_ix (kix_any K rfl) (pv 1) (pe_un un_neg pe_int) (fun _ _ => rfl)) (pv 2)) pa_nil)))))
    (pss_one (ps_ret (pv 1))))), ?_⟩
    refine ⟨by decide, fun l nl => ?_⟩
    have e1 : Ex H (upd H l (.lst [.int 0])) := Ex.new nl
    dsimp only [gName]
    refine seq1 ?_
    refine forB (S := H) (a := a) (xs := ns.map V.int) (fun Q' q => ⟨_, rfl, q⟩) hs
      (fun i σ H' => (∃ v, σ = [some (.ref a), some (.ref l), v]) ∧ Ex H H' ∧ H' l = some (.lst ((rs (ns.take i)).map V.int)))
      ⟨⟨_, rfl⟩, e1, upd_same⟩ (fun i σ H' p => p.2.1) ?_ ?_
    · rintro i x σ H' hi ⟨⟨v, rfl⟩, e, hd⟩
      rw [List.getElem?_map] at hi
      obtain ⟨n, hn, rfl⟩ := Option.map_eq_some_iff.mp hi
      refine ⟨_, rfl, .inl ⟨rfl, _, SqL.of hd⟩, op1 ?_⟩
      refine ⟨_, rfl, _, rfl, l, _, -1, _, rfl, rfl, Sq.l hd, rs_last _, _, rfl, _, _, rfl, rfl, l, _, _, rfl, rfl, hd, ?_, ⟨_, rfl⟩, e.mut nl, ?_⟩
      · rw [List.length_map, rs_length, List.length_take]
        unfold sizeLine
        omega
      · rw [upd_same, take_snoc hn, rs_snoc, List.map_append]
        rfl
    · rintro σ H' ⟨⟨v, rfl⟩, e, hd⟩
      rw [List.length_map, List.take_length] at hd
      exact ⟨_, rfl, k l H' nl e hd⟩
end
end HR
namespace HR
open PySem L2
section
variable {P : Program} {w : World} {K : PySem.W.Frag} {mg : Str → Option Value} {base : Heap} {C : String → Addr}
structure MkSch where
  x : Addr
  dx : Addr
  p : V
  c : V
  s : Sch
  S : Hp
  H0 : Hp
def sp_Schedule_init (C : String → Addr) (K : PySem.W.Frag) : Sp := Spec (α := MkSch) (fun z => [.ref z.x, z.p, z.c]) fun z H Q =>
  Ex z.S z.H0 ∧ z.H0 z.x = none ∧ z.H0 z.dx = none ∧ z.dx ≠ z.x ∧ H = upd (upd z.H0 z.dx (.own z.x)) z.x (.ins (C "Schedule") z.dx []) ∧ TalksAt K z.S z.p z.s.pre ∧ TalksAt K z.S z.c z.s.cyc ∧ z.s.pre.length ≤ 8 ∧ z.s.cyc.length ≤ 8 ∧
  ∀ H', Ex z.H0 H' → SchAt C K (ext z.S z.H0 H') z.x z.s → Q .non H'
theorem K_Schedule (T : Txt K mg C) : C8.Mak P w K mg base 2 "Schedule" (C "Schedule") (sp_Schedule_init C K) [] :=
  mak_of T.i_Schedule sc_Schedule___init__ (fun _ => rfl) fun f cdv A outer s H z Q E hr h => by
    obtain ⟨x, dx, p, c, sch, S, H0⟩ := z
    dsimp only at h ⊢
    obtain ⟨hS, nx, ndx, ne, rfl, ⟨pa, pxs, rfl, hp1, hp2⟩, ⟨ca, cxs, rfl, hc1, hc2⟩, l1, l2, k⟩ := h
    refine ⟨_, (pss_cons (ksfld K rfl (pv 0) (pe_lc (own := [("one", 3)]) rfl sc_Schedule___init__.nd (kpi_any K rfl (pv 1)) (blkOk_by (own := [("one", 3)]) (N := N_Schedule___init__) (sc := C8.fnScope s_Schedule___init__) (by decide +kernel)) (fun _ _ _ _ _ => (pg_name (i := 3) sc_Schedule___init__.nd rfl (.inl rfl))) (fun _ _ _ _ _ => pts_nil) (fun _ _ _ _ _ => (pe_callTy (ktup K rfl) (by rfl) T.b_tuple bt_tuple (pa_cons (pv 3) pa_nil)))) rfl)
    (pss_cons (ksfld K rfl (pv 0) (pe_lc (own := [("one", 3)]) rfl sc_Schedule___init__.nd (kpi_any K rfl (pv 2)) (blkOk_by (own := [("one", 3)]) (N := N_Schedule___init__) (sc := C8.fnScope s_Schedule___init__) (by decide +kernel)) (fun _ _ _ _ _ => (pg_name (i := 3) sc_Schedule___init__.nd rfl (.inl rfl))) (fun _ _ _ _ _ => pts_nil) (fun _ _ _ _ _ => (pe_callTy (ktup K rfl) (by rfl) T.b_tuple bt_tuple (pa_cons (pv 3) pa_nil)))) rfl)
    (pss_cons (ksfld K rfl (pv 0) (C8.pe_c (C_running_sums T) hr (by omega) (by rfl) (pa_cons (pe_lc (own := [("one", 3)]) rfl sc_Schedule___init__.nd (kpi_any K rfl (kfld K rfl (pv 0) rfl)) (blkOk_by (own := [("one", 3)]) (N := N_Schedule___init__) (sc := C8.fnScope s_Schedule___init__) (by decide +kernel)) (fun _ _ _ _ _ => (pg_name (i := 3) sc_Schedule___init__.nd rfl (.inl rfl))) (fun _ _ _ _ _ => pts_nil) (fun _ _ _ _ _ => (pe_ix (kix_any K rfl) (pv 3) pe_int (fun _ _ => rfl)))) pa_nil)) rfl)
    (pss_cons (ksfld K rfl (pv 0) (C8.pe_c (C_running_sums T) hr (by omega) (by rfl) (pa_cons (pe_lc (own := [("one", 3)]) rfl sc_Schedule___init__.nd (kpi_any K rfl (kfld K rfl (pv 0) rfl)) (blkOk_by (own := [("one", 3)]) (N := N_Schedule___init__) (sc := C8.fnScope s_Schedule___init__) (by decide +kernel)) (fun _ _ _ _ _ => (pg_name (i := 3) sc_Schedule___init__.nd rfl (.inl rfl))) (fun _ _ _ _ _ => pts_nil) (fun _ _ _ _ _ => (pe_ix (kix_any K rfl) (pv 3) pe_int (fun _ _ => rfl)))) pa_nil)) rfl)
    (pss_cons (ksfld K rfl (pv 0) (C8.pe_c (C_running_sums T) hr (by omega) (by rfl) (pa_cons (pe_lc (own := [("one", 3)]) rfl sc_Schedule___init__.nd (kpi_any K rfl (kfld K rfl (pv 0) rfl)) (blkOk_by (own := [("one", 3)]) (N := N_Schedule___init__) (sc := C8.fnScope s_Schedule___init__) (by decide +kernel)) (fun _ _ _ _ _ => (pg_name (i := 3) sc_Schedule___init__.nd rfl (.inl rfl))) (fun _ _ _ _ _ => pts_nil) (fun _ _ _ _ _ => (pe_ix (kix_any K rfl) (pv 3) pe_int (fun _ _ => rfl)))) pa_nil)) rfl)
    (pss_one (ksfld K rfl (pv 0) (C8.pe_c (C_running_sums T) hr (by omega) (by rfl) (pa_cons (pe_lc (own := [("one", 3)]) rfl sc_Schedule___init__.nd (kpi_any K rfl (kfld K rfl (pv 0) rfl)) (blkOk_by (own := [("one", 3)]) (N := N_Schedule___init__) (sc := C8.fnScope s_Schedule___init__) (by decide +kernel)) (fun _ _ _ _ _ => (pg_name (i := 3) sc_Schedule___init__.nd rfl (.inl rfl))) (fun _ _ _ _ _ => pts_nil) (fun _ _ _ _ _ => (pe_ix (kix_any K rfl) (pv 3) pe_int (fun _ _ => rfl)))) pa_nil)) rfl))))))), ?_⟩
    have t0 := ((Stn.start hS).lay (l := dx) (o := .own x) ndx (fun _ h => nomatch h)).cell (l := x) (o := .ins (C "Schedule") dx []) (by rw [upd_ne ne.symm]; exact nx)
    have hx : ∀ {Hc : Hp} {fs : List (Str × V)}, Hc x = some (.ins (C "Schedule") dx fs) → ∀ l ∈ [x], Hc l ≠ none := fun {Hc fs} h l hl => by
      cases List.mem_singleton.mp hl
      rw [h]
      exact fun q => nomatch q
    -- self.prefix, self.cycle
    have copy : ∀ {Sc Hc : Hp} {fs : List (Str × V)} {a : Addr} {xs : List V} {ts : List (Int × Int)} {σ : St} {i : Nat} {Q' : VK}, Stn S H0 [x] Sc Hc → Hc x = some (.ins (C "Schedule") dx fs) → Sq K S a xs → PySem.Paired (TalkAt K S) xs ts → ts.length ≤ 8 →
        (∃ v0 v1 v2 v3, σ = [v0, v1, v2, v3]) → σ[i]? = some (some (.ref a)) →
        (∀ D Sc' H', Stn S H0 [x] Sc' H' → H' x = some (.ins (C "Schedule") dx fs) → LTalks K Sc' D ts → Ex Sc Sc' → Q' (.ref D) H') →
        tLc (iAny K (tVar i)) (gName 3) tYes (tCB (rTupA K) (tCons (tVar 3) tNil)) [3] σ Hc Q' := by
      intro Sc Hc fs a xs ts σ i Q' t hh hs hp hl ⟨v0, v1, v2, v3, hσ⟩ hi q
      subst hσ
      refine lcA (S := Sc) (H1 := Hc) (as := ts) (fun v u => TalkAt K S v u) (fun _ => true) (fun y u H => ∃ b, y = .ref b ∧ SqT K H b (pairV u)) t.cur (fun Q2 z => ⟨_, hi, z⟩) ((hs.ex t.sub).ex t.cur) hp
        (fun y b H H' e ⟨z, e1, e2⟩ => ⟨z, e1, Evl.ex_t e e2⟩) (by omega) (fun j y u Sc' H' e1 e2 e3 hj hu hr C1 Cn q1 _ => ⟨rfl, ?_⟩) fun D ys H' hD e hd hq => ?_
      · obtain ⟨b, rfl, hb⟩ := hr
        refine ⟨_, rfl, b, _, S, rfl, (t.sub.trans e1).trans e2, hb, fun l nl => q1 rfl _ _ (Ex.new nl) ⟨l, rfl, ?_⟩, fun ht => q1 rfl _ _ (Ex.refl _) ⟨b, rfl, ?_⟩⟩
        · exact SqT.of (by rw [ext_new nl]; exact upd_same)
        · exact Evl.ex_t (ext_up e2) (Evl.ex_t (t.sub.trans e1) ht)
      · rw [filter_true] at hq
        refine q D _ H' (t.step (hx hh) e) (e _ _ hh) ⟨ys, ?_, hq⟩ (ext_up t.cur)
        rw [ext_new hD]
        exact hd
    -- running_sums([one[i] for one in self.f])
    have sums : ∀ {Sc Hc : Hp} {fs : List (Str × V)} {fn : Str} {a : Addr} {ts : List (Int × Int)} {σ : St} {j : Int} {g : F2} {Q' : VK}, Stn S H0 [x] Sc Hc → Hc x = some (.ins (C "Schedule") dx fs) → LTalks K Sc a ts → ts.length ≤ 8 → NoAttr K (C "Schedule") fn → fs.lookup fn = some (.ref a) →
        (∃ v1 v2 v3, σ = [some (.ref x), v1, v2, v3]) → (∀ u, atI (pairV u) j = some (.int (g u))) →
        (∀ D Sc' H', Stn S H0 [x] Sc' H' → H' x = some (.ins (C "Schedule") dx fs) → Sc' D = some (.lst ((rs (ts.map g)).map V.int)) → Ex Sc Sc' → Q' (.ref D) H') →
        tCall (sp_running_sums K) [] C8.E0 (tCons (tLc (iAny K (tFld K (tVar 0) fn)) (gName 3) tYes (tOp (rIxA K) (tVar 3) (tC (.int j))) [3]) tNil) σ Hc Q' := by
      intro Sc Hc fs fn a ts σ j g Q' t hh ⟨xs, ha, hp⟩ hl na hf ⟨v1, v2, v3, hσ⟩ hj q
      subst hσ
      refine call1 ?_
      refine lcV (as := ts) (fun v u => ∃ b, v = .ref b ∧ SqT K Sc b (pairV u)) (fun _ => true) (fun u => .int (g u)) (fun Q2 z => ⟨_, rfl, x, _, dx, fs, _, rfl, hh, T.c_Schedule, na, hf, z⟩) (Sq.l (t.cur _ _ ha)) hp (by omega)
        (fun i y u H' e hi hu hr C1 Cn q1 _ => ⟨rfl, ?_⟩) fun D H' hD e hd => ?_
      · obtain ⟨b, rfl, hb⟩ := hr
        exact ⟨_, rfl, b, _, j, _, rfl, rfl, .inr (Evl.ex_t (t.cur.trans e) hb), hj u, q1 rfl H' (Ex.refl _)⟩
      · rw [filter_true] at hd
        refine ⟨(D, ts.map g), rfl, Sq.l (by rw [hd, List.map_map]; rfl), by rw [List.length_map]; omega, fun D2 H2 hD2 e2 hd2 => ?_⟩
        have t1 := t.step (hx hh) e
        refine q D2 _ H2 (t1.step (hx (e _ _ hh)) e2) (e2 _ _ (e _ _ hh)) ?_ ((ext_up t.cur).trans (ext_up t1.cur))
        rw [ext_new hD2]
        exact hd2
    have lk : ∀ {f g : Str} {v : V} {fs : List (Str × V)}, g = f → (putF f v fs).lookup g = some v := fun e => by rw [lookup_putF, if_pos e]
    have ln : ∀ {f g : Str} {v : V} {fs : List (Str × V)}, ¬ g = f → (putF f v fs).lookup g = fs.lookup g := fun e => by rw [lookup_putF, if_neg e]
    refine seq1 (fld1 (copy (i := 1) t0 upd_same hp1 hp2 l1 ⟨_, _, _, _, rfl⟩ rfl fun D1 S1 H1 t1 h1 g1 _ => ?_))
    refine ⟨_, rfl, x, _, dx, _, rfl, h1, T.c_Schedule, T.n_Schedule_prefix, by decide, ?_⟩
    dsimp only
    refine seq1 (fld1 (copy (i := 2) (t1.put List.mem_cons_self) upd_same hc1 hc2 l2 ⟨_, _, _, _, rfl⟩ rfl fun D2 S2 H2 t2 h2 g2 e2 => ?_))
    refine ⟨_, rfl, x, _, dx, _, rfl, h2, T.c_Schedule, T.n_Schedule_cycle, by show 1 < 1000; decide, ?_⟩
    dsimp only
    refine seq1 (fld1 (sums (t2.put List.mem_cons_self) upd_same (g1.ex e2) l1 T.n_Schedule_prefix ((ln (by decide +kernel)).trans (lk rfl)) ⟨_, _, _, rfl⟩ (g := (·.1)) (fun u => rfl) fun D3 S3 H3 t3 h3 g3 e3 => ?_))
    refine ⟨_, rfl, x, _, dx, _, rfl, h3, T.c_Schedule, T.n_Schedule_prefix_silences, by show 2 < 1000; decide, ?_⟩
    dsimp only
    refine seq1 (fld1 (sums (t3.put List.mem_cons_self) upd_same ((g1.ex e2).ex e3) l1 T.n_Schedule_prefix ((ln (by decide +kernel)).trans ((ln (by decide +kernel)).trans (lk rfl))) ⟨_, _, _, rfl⟩ (g := (·.2)) (fun u => rfl) fun D4 S4 H4 t4 h4 g4 e4 => ?_))
    refine ⟨_, rfl, x, _, dx, _, rfl, h4, T.c_Schedule, T.n_Schedule_prefix_lengths, by show 3 < 1000; decide, ?_⟩
    dsimp only
    refine seq1 (fld1 (sums (t4.put List.mem_cons_self) upd_same ((g2.ex e3).ex e4) l2 T.n_Schedule_cycle ((ln (by decide +kernel)).trans ((ln (by decide +kernel)).trans (lk rfl))) ⟨_, _, _, rfl⟩ (g := (·.1)) (fun u => rfl) fun D5 S5 H5 t5 h5 g5 e5 => ?_))
    refine ⟨_, rfl, x, _, dx, _, rfl, h5, T.c_Schedule, T.n_Schedule_cycle_silences, by show 4 < 1000; decide, ?_⟩
    dsimp only
    refine fld1 (sums (t5.put List.mem_cons_self) upd_same (((g2.ex e3).ex e4).ex e5) l2 T.n_Schedule_cycle ((ln (by decide +kernel)).trans ((ln (by decide +kernel)).trans ((ln (by decide +kernel)).trans (lk rfl)))) ⟨_, _, _, rfl⟩ (g := (·.2)) (fun u => rfl) fun D6 S6 H6 t6 h6 g6 e6 => ?_)
    refine ⟨_, rfl, x, _, dx, _, rfl, h6, T.c_Schedule, T.n_Schedule_cycle_lengths, by show 5 < 1000; decide, ?_⟩
    have t7 := (t6.put (o := .ins (C "Schedule") dx (schF6 D1 D2 D3 D4 D5 D6)) List.mem_cons_self).freeze (l := x) upd_same (fun h => nomatch h)
    refine k _ t7.keep ?_
    have up := t7.fin hS
    have e7 : Ex S6 (upd S6 x (.ins (C "Schedule") dx (schF6 D1 D2 D3 D4 D5 D6))) := Ex.new (t6.loc x List.mem_cons_self).1
    have up6 := e7.trans up
    refine ⟨dx, schF6 D1 D2 D3 D4 D5 D6, up _ _ upd_same, ⟨D1, ?_, (((((g1.ex e2).ex e3).ex e4).ex e5).ex e6).ex up6⟩, ⟨D2, ?_, ((((g2.ex e3).ex e4).ex e5).ex e6).ex up6⟩, ⟨D3, ?_, up6 _ _ (e6 _ _ (e5 _ _ (e4 _ _ g3)))⟩, ⟨D4, ?_, up6 _ _ (e6 _ _ (e5 _ _ g4))⟩,
      ⟨D5, ?_, up6 _ _ (e6 _ _ g5)⟩, ⟨D6, ?_, up6 _ _ g6⟩, ?_, ?_, ?_, ?_, ?_⟩ <;> unfold schF6 schF5 schF4 schF3 schF2 schF1 <;> repeat (first | rw [lookup_putF, if_pos rfl] | rw [lookup_putF, if_neg (by decide +kernel)])
    all_goals rfl
end
end HR
namespace HR
open PySem L2
section
variable {P : Program} {w : World} {K : PySem.W.Frag} {mg : Str → Option Value} {base : Heap} {C : String → Addr}
/-- the schedule, its talks, how many, which of the two parts of a talk is summed, where the running sums stand -/
structure SumAsk where
  a : Addr
  s : Sch
  n : Nat
  f : F2
  p : Addr
  c : Addr
def sp_sum_of_first (C : String → Addr) (K : PySem.W.Frag) : Sp := Spec (α := SumAsk) (fun x => [.ref x.a, .int x.n, .ref x.p, .ref x.c]) fun x H Q =>
  SchAt C K H x.a x.s ∧ x.s.Ok ∧ H x.p = some (.lst ((rs (x.s.pre.map x.f)).map V.int)) ∧ H x.c = some (.lst ((rs (x.s.cyc.map x.f)).map V.int)) ∧ Bd x.n ∧ (x.s.csum x.f).natAbs ≤ TOP ∧ ∀ H', Ex H H' → Q (.int (x.s.sum x.f x.n)) H'
theorem M_Schedule_sum_of_first (T : Txt K mg C) : C8.Met P w K mg base 1 (C "Schedule") "sum_of_first" (sp_sum_of_first C K) [] :=
  met_of T.c_Schedule T.m_Schedule_sum_of_first sc_Schedule_sum_of_first (fun _ => rfl) fun f cdv A outer s H x Q E hr h => by
    obtain ⟨a, S, n, g, p, c⟩ := x
    dsimp only at h ⊢
    obtain ⟨⟨dx, fs, ob, ⟨p1, l1, xs1, g1, t1⟩, ⟨p2, l2, xs2, g2, t2⟩, _⟩, ok, hp, hc, bd, bc, k⟩ := h
    have n1 := Paired.len t1
    have n2 := Paired.len t2
    have cl := Sch.sum_closed ok g n
    have pos := ok.pos
    refine ⟨_, (pss_cons (ps_if (pt_cmpR op_le (pv 1) (pe_callB (klen K rfl) (by rfl) T.b_len bt_len (pa_cons (kfld K rfl (pv 0) rfl) pa_nil)) (nomark _)) (pss_one (ps_ret (pe_ix (kix_any K rfl) (pv 2) (pv 1) (fun _ _ => rfl)))) pss_nil)
    (pss_cons (ps_asg (pe_callB call_divmodW (by rfl) T.b_divmod bt_divmod (pa_cons (pe_op op_sub (pv 1) (pe_callB (klen K rfl) (by rfl) T.b_len bt_len (pa_cons (kfld K rfl (pv 0) rfl) pa_nil))) (pa_cons (pe_callB (klen K rfl) (by rfl) T.b_len bt_len (pa_cons (kfld K rfl (pv 0) rfl) pa_nil)) pa_nil))) (kpg_tup K rfl (n := 2) (pgs_cons (pg_name (i := 4) sc_Schedule_sum_of_first.nd rfl (.inl rfl)) (pgs_cons (pg_name (i := 5) sc_Schedule_sum_of_first.nd rfl (.inl rfl)) pgs_nil))))
    (pss_one (ps_ret (pe_op op_add (pe_op op_add (pe_ix (kix_any K rfl) (pv 2) (pe_un un_neg pe_int) (fun _ _ => rfl)) (pe_op op_mulW (pv 4) (pe_ix (kix_any K rfl) (pv 3) (pe_un un_neg pe_int) (fun _ _ => rfl)))) (pe_ix (kix_any K rfl) (pv 3) (pv 5) (fun _ _ => rfl))))))), ?_⟩
    refine ⟨_, rfl, _, rfl, a, _, dx, fs, _, rfl, ob, T.c_Schedule, T.n_Schedule_prefix, l1, p1, xs1, rfl, Sq.l g1, _, _, rfl, rfl, _, rfl, ?_⟩
    by_cases hn : n ≤ S.pre.length
    · rw [decide_eq_true (by omega)]
      refine ⟨_, rfl, _, rfl, p, _, n, _, rfl, rfl, Sq.l hp, rs_at _ (by simpa using hn), ?_⟩
      rw [if_pos hn] at cl
      rw [← cl]
      exact k H (Ex.refl H)
    · rw [decide_eq_false (by omega)]
      refine ⟨_, rfl, _, rfl, a, _, dx, fs, _, rfl, ob, T.c_Schedule, T.n_Schedule_prefix, l1, p1, xs1, rfl, Sq.l g1, _, _, rfl, rfl, _, rfl, a, _, dx, fs, _, rfl, ob, T.c_Schedule, T.n_Schedule_cycle, l2, p2, xs2, rfl, Sq.l g2, ?_⟩
      refine ⟨_, _, rfl, divP (by omega) (top_small (by have := ok.lc; omega)), fun t nt => ?_⟩
      have e : ∀ o, Ex H (upd H t o) := fun o => Ex.new nt
      refine ⟨t, _, rfl, .inl (.inl upd_same), rfl, _, _, rfl, _, _, rfl, rfl, ?_⟩
      rw [n1, n2]
      have q1 : ((n : Int) - (S.pre.length : Int)) / (S.cyc.length : Int) = (((n - S.pre.length) / S.cyc.length : Nat) : Int) := by rw [Int.natCast_ediv, Int.ofNat_sub (by omega)]
      have q2 : ((n : Int) - (S.pre.length : Int)) % (S.cyc.length : Int) = (((n - S.pre.length) % S.cyc.length : Nat) : Int) := by rw [Int.natCast_emod, Int.ofNat_sub (by omega)]
      rw [q1, q2]
      refine ⟨_, rfl, _, rfl, p, _, -1, _, rfl, rfl, Sq.l (e _ _ _ hp), rs_last _, _, rfl, _, rfl, _, rfl, c, _, -1, _, rfl, rfl, Sq.l (e _ _ _ hc), rs_last _, _, _, rfl, rfl, ?_, _, _, rfl, rfl, _, rfl, _, rfl, c, _, _, _, rfl, rfl, Sq.l (e _ _ _ hc), rs_at _ ?_, _, _, rfl, rfl, ?_⟩
      · exact Bd.mul (bd.le (Int.natCast_nonneg _) (Int.ofNat_le.mpr (Nat.le_trans (Nat.div_le_self _ _) (Nat.sub_le _ _)))) (Bd.ofTop bc)
      · rw [List.length_map]
        exact Nat.le_of_lt (Nat.mod_lt _ pos)
      · rw [if_neg hn] at cl
        rw [cl] at k
        exact k _ (e _)
end
end HR
namespace HR
open PySem L2
section
variable {P : Program} {w : World} {K : PySem.W.Frag} {mg : Str → Option Value} {base : Heap} {C : String → Addr}
def sp_count_ready (C : String → Addr) (K : PySem.W.Frag) : Sp := Spec (α := Addr × Sch × Int) (fun x => [.ref x.1, .int x.2.2]) fun x H Q => SchAt C K H x.1 x.2.1 ∧ x.2.1.Ok ∧ Bd x.2.2 ∧ ∀ H', Ex H H' → Q (.int (x.2.1.cnt x.2.2)) H'
theorem M_Schedule_count_ready (T : Txt K mg C) : C8.Met P w K mg base 1 (C "Schedule") "count_ready" (sp_count_ready C K) [] :=
  met_of T.c_Schedule T.m_Schedule_count_ready sc_Schedule_count_ready (fun _ => rfl) fun f cdv A outer s H x Q E hr h => by
    obtain ⟨a, S, q⟩ := x
    dsimp only at h ⊢
    obtain ⟨⟨dx, fs, ob, ⟨p1, l1, xs1, g1, t1⟩, ⟨p2, l2, xs2, g2, t2⟩, ⟨p3, l3, g3⟩, ⟨p4, l4, g4⟩, ⟨p5, l5, g5⟩, ⟨p6, l6, g6⟩, _⟩, ok, bd, k⟩ := h
    have n1 := Paired.len t1
    have n2 := Paired.len t2
    have pos := ok.pos
    have cp := csum1_pos ok
    refine ⟨_, (pss_cons (ps_if (pt_cmpR op_lt (pv 1) (pe_ix (kix_any K rfl) (kfld K rfl (pv 0) rfl) (pe_un un_neg pe_int) (fun _ _ => rfl)) (nomark _)) (pss_one (ps_ret (pe_callB (klen K rfl) (by rfl) T.b_len bt_len (pa_cons (pe_lc (own := [("total", 5)]) rfl sc_Schedule_count_ready.nd (kpi_any K rfl (pe_slice (ksl_list K rfl) (kfld K rfl (pv 0) rfl) (po_some pe_int) po_none)) (blkOk_by (own := [("total", 5)]) (N := N_Schedule_count_ready) (sc := C8.fnScope s_Schedule_count_ready) (by decide +kernel)) (fun _ _ _ _ _ => (pg_name (i := 5) sc_Schedule_count_ready.nd rfl (.inl rfl))) (fun _ _ _ _ _ => (pts_one (pt_cmpR op_le (pv 5) (pv 1) (nomark _)))) (fun _ _ _ _ _ => (pv 5))) pa_nil)))) pss_nil)
    (pss_cons (ps_asg (pe_callB call_divmodW (by rfl) T.b_divmod bt_divmod (pa_cons (pe_op op_sub (pv 1) (pe_ix (kix_any K rfl) (kfld K rfl (pv 0) rfl) (pe_un un_neg pe_int) (fun _ _ => rfl))) (pa_cons (pe_ix (kix_any K rfl) (kfld K rfl (pv 0) rfl) (pe_un un_neg pe_int) (fun _ _ => rfl)) pa_nil))) (kpg_tup K rfl (n := 2) (pgs_cons (pg_name (i := 2) sc_Schedule_count_ready.nd rfl (.inl rfl)) (pgs_cons (pg_name (i := 3) sc_Schedule_count_ready.nd rfl (.inr rfl)) pgs_nil))))
    (pss_cons (ps_set (i := 4) sc_Schedule_count_ready.nd rfl (.inl rfl) (pe_op op_add (pe_callB (klen K rfl) (by rfl) T.b_len bt_len (pa_cons (kfld K rfl (pv 0) rfl) pa_nil)) (pe_op op_mulW (pv 2) (pe_callB (klen K rfl) (by rfl) T.b_len bt_len (pa_cons (kfld K rfl (pv 0) rfl) pa_nil)))))
    (pss_one (ps_ret (pe_op op_add (pv 4) (pe_callB (klen K rfl) (by rfl) T.b_len bt_len (pa_cons (pe_lc (own := [("total", 5)]) rfl sc_Schedule_count_ready.nd (kpi_any K rfl (pe_slice (ksl_list K rfl) (kfld K rfl (pv 0) rfl) (po_some pe_int) po_none)) (blkOk_by (own := [("total", 5)]) (N := N_Schedule_count_ready) (sc := C8.fnScope s_Schedule_count_ready) (by decide +kernel)) (fun _ _ _ _ _ => (pg_name (i := 5) sc_Schedule_count_ready.nd rfl (.inl rfl))) (fun _ _ _ _ _ => (pts_one (pt_cmpR op_le (pv 5) (pv 3) (nomark _)))) (fun _ _ _ _ _ => (pv 5))) pa_nil)))))))), ?_⟩
    refine ⟨_, rfl, _, rfl, a, _, dx, fs, _, rfl, ob, T.c_Schedule, T.n_Schedule_prefix_silences, l3, _, rfl, p3, _, -1, _, rfl, rfl, Sq.l g3, rs_last _, _, _, rfl, rfl, _, rfl, ?_⟩
    have part : ∀ (H1 : Hp) (p : Addr) (l : List Int) (z : Int) (i : Nat) (σ : St) (te : TE) (Q' : VK), Ex H H1 → H1 p = some (.lst ((rs l).map V.int)) → l.length ≤ 8 → (∀ Q2 : VK, Q2 (.ref p) H1 → te σ H1 Q2) → σ[i]? = some (some (.int z)) → i < 5 → σ.length = 6 →
        (∀ H2, Ex H1 H2 → Q' (.int (((rs l).drop 1).filter fun x => decide (x ≤ z)).length) H2) →
        (tCB (rLenA K) (tCons (tLc (iAny K (tSl (rSlL K) te (tPart (tC (.int 1))) tNoPart)) (gName 5) (tTest (tOp (rI0 fun i j => .bl (decide (i ≤ j))) (tVar 5) (tVar i))) (tVar 5) [5]) tNil)) σ H1 Q' := by
      intro H1 p l z i σ te Q' e1 hp hl ht hi h5 hσ q
      refine cb1 ?_
      refine lcVN (as := (rs l).drop 1) (fun x n => x = .int n) (fun n => decide (n ≤ z)) V.int (fun R hR => ?_) (Paired.of_map V.int (fun _ => rfl) _) (by rw [List.length_drop, rs_length]; omega)
        (fun j x b H' e _ _ hb C Cn q1 q0 => ⟨?_, ?_⟩) fun D H' hD e hd => ?_
      · refine ht _ ⟨1, rfl, p, _, rfl, SqL.of hp, fun D hD => ?_⟩
        rw [cut1, ← List.map_drop]
        exact hR D _ hD (Ex.new hD) upd_same
      · obtain ⟨a0, a1, a2, a3, a4, a5, rfl⟩ : ∃ a0 a1 a2 a3 a4 a5, σ = [a0, a1, a2, a3, a4, a5] := by
          match σ, hσ with
          | [a0, a1, a2, a3, a4, a5], _ => exact ⟨a0, a1, a2, a3, a4, a5, rfl⟩
        rfl
      · subst hb
        have w1 : (wipe σ [5])[i]? = some (some (.int z)) := by
          show (σ.set 5 none)[i]? = _
          rw [List.getElem?_set_ne (by omega)]
          exact hi
        have w2 : ∀ x, (gName 5 x (wipe σ [5]) H' fun σ2 _ => σ2[5]? = some (some x) ∧ σ2[i]? = some (some (.int z))) := fun x => by
          refine ⟨List.getElem?_set_self (by rw [wipe_length]; omega), ?_⟩
          show ((wipe σ [5]).set 5 (some x))[i]? = _
          rw [List.getElem?_set_ne (by omega)]
          exact w1
        obtain ⟨v1, v2⟩ := w2 (.int b)
        refine ⟨.int b, v1, .int z, v2, _, _, rfl, rfl, _, rfl, ?_⟩
        by_cases hb : b ≤ z
        · rw [decide_eq_true hb]
          exact iteT ⟨.int b, v1, q1 (decide_eq_true hb) H' (Ex.refl _)⟩
        · rw [decide_eq_false hb]
          exact iteF (q0 (decide_eq_false hb) H' (Ex.refl _))
      · refine ⟨D, _, rfl, Sq.l hd, ?_⟩
        rw [List.length_map]
        exact q H' e
    by_cases hq : q < S.psum (·.1)
    · have c0 : S.cnt q = (((rs (S.pre.map (·.1))).drop 1).filter fun x => decide (x ≤ q)).length := by unfold Sch.cnt; rw [if_pos hq]
      rw [show decide (q < (S.pre.map fun x => x.1).sum) = true from decide_eq_true hq]
      refine iteT ?_
      refine ret1 (part H p3 (S.pre.map (·.1)) q 1 _ _ _ (Ex.refl H) g3 (by rw [List.length_map]; exact ok.lp) (fun Q2 z => ⟨_, rfl, a, _, dx, fs, _, rfl, ob, T.c_Schedule, T.n_Schedule_prefix_silences, l3, z⟩) rfl (by omega) rfl fun H2 e2 => ?_)
      rw [← c0]
      exact k H2 e2
    · rw [show decide (q < (S.pre.map fun x => x.1).sum) = false from decide_eq_false hq]
      refine iteF (next1 ?_)
      dsimp only
      refine ⟨_, rfl, _, rfl, a, _, dx, fs, _, rfl, ob, T.c_Schedule, T.n_Schedule_prefix_silences, l3, _, rfl, p3, _, -1, _, rfl, rfl, Sq.l g3, rs_last _, _, _, rfl, rfl, ?_⟩
      refine ⟨_, rfl, a, _, dx, fs, _, rfl, ob, T.c_Schedule, T.n_Schedule_cycle_silences, l5, _, rfl, p5, _, -1, _, rfl, rfl, Sq.l g5, rs_last _, _, _, rfl, divP cp (csum1_le ok), fun t nt => ?_⟩
      have e : ∀ o, Ex H (upd H t o) := fun o => Ex.new nt
      refine ⟨t, _, rfl, .inl (.inl upd_same), rfl, _, _, rfl, _, _, rfl, rfl, ?_⟩
      refine ⟨_, rfl, a, _, dx, fs, _, rfl, e _ _ _ ob, T.c_Schedule, T.n_Schedule_prefix, l1, p1, xs1, rfl, Sq.l (e _ _ _ g1), _, rfl, _, rfl, a, _, dx, fs, _, rfl, e _ _ _ ob, T.c_Schedule, T.n_Schedule_cycle, l2, p2, xs2, rfl, Sq.l (e _ _ _ g2), _, _, rfl, rfl, ?_, _, _, rfl, rfl, ?_⟩
      · have p0 := Sch.psum_nonneg ok (·.1) fun t ht => ht.1
        show CMulW ((q - S.psum (·.1)) / S.csum (·.1)) _
        refine Bd.mul (bd.le (Int.ediv_nonneg (by omega) (by omega)) (Int.le_trans (Int.ediv_le_self _ (by omega)) (by omega))) (Bd.ofTop (top_small ?_))
        rw [n2]
        have := ok.lc
        omega
      · dsimp only [gName]
        refine ret1 (op1 ⟨_, rfl, ?_⟩)
        refine part _ p5 (S.cyc.map (·.1)) ((q - S.psum (·.1)) % S.csum (·.1)) 3 _ _ _ (e _) (e _ _ _ g5) (by rw [List.length_map]; exact ok.lc) (fun Q2 z => ⟨_, rfl, a, _, dx, fs, _, rfl, e _ _ _ ob, T.c_Schedule, T.n_Schedule_cycle_silences, l5, z⟩) rfl (by omega) rfl fun H2 e2 => ?_
        refine ⟨_, _, rfl, rfl, ?_⟩
        have c1 : (S.cnt q : Int) = (S.pre.length : Int) + (q - S.psum (·.1)) / S.csum (·.1) * (S.cyc.length : Int) + ((((rs (S.cyc.map (·.1))).drop 1).filter fun x => decide (x ≤ (q - S.psum (·.1)) % S.csum (·.1))).length : Int) := by
          unfold Sch.cnt
          rw [if_neg hq]
          have := Int.ediv_nonneg (show 0 ≤ q - S.psum (·.1) by omega) (show 0 ≤ S.csum (·.1) by omega)
          rw [Int.natCast_add, Int.natCast_add, Int.natCast_mul, Int.toNat_of_nonneg this]
        have := k H2 ((e _).trans e2)
        rw [c1] at this
        rw [n1, n2]
        exact this
end
end HR
namespace HR
open PySem L2
section
variable {P : Program} {w : World} {K : PySem.W.Frag} {mg : Str → Option Value} {base : Heap} {C : String → Addr}
def sp_length_ready (C : String → Addr) (K : PySem.W.Frag) : Sp := Spec (α := Addr × Sch × Int) (fun x => [.ref x.1, .int x.2.2]) fun x H Q => SchAt C K H x.1 x.2.1 ∧ x.2.1.Ok ∧ Bd x.2.2 ∧ ∀ H', Ex H H' → Q (.int (x.2.1.sum (·.2) (x.2.1.cnt x.2.2))) H'
theorem M_Schedule_length_ready (T : Txt K mg C) : C8.Met P w K mg base 2 (C "Schedule") "length_ready" (sp_length_ready C K) [] :=
  met_of T.c_Schedule T.m_Schedule_length_ready sc_Schedule_length_ready (fun _ => rfl) fun f cdv A outer s H x Q E hr h => by
    obtain ⟨a, S, q⟩ := x
    dsimp only at h ⊢
    obtain ⟨hs, ok, bd, k⟩ := h
    have hs0 := hs
    obtain ⟨dx, fs, ob, ⟨p1, l1, xs1, g1, t1⟩, ⟨p2, l2, xs2, g2, t2⟩, ⟨p3, l3, g3⟩, ⟨p4, l4, g4⟩, ⟨p5, l5, g5⟩, ⟨p6, l6, g6⟩, z1, z2, z3, z4, z5⟩ := hs
    refine ⟨_, (pss_one (ps_ret (C8.pe_mt (M_Schedule_sum_of_first T) hr (by omega) (pv 0) (pa_cons (C8.pe_mt (M_Schedule_count_ready T) hr (by omega) (pv 0) (pa_cons (pv 1) pa_nil)) (pa_cons (kfld K rfl (pv 0) rfl) (pa_cons (kfld K rfl (pv 0) rfl) pa_nil)))))), ?_⟩
    refine ⟨_, rfl, a, dx, fs, rfl, ob, z2, _, rfl, a, dx, fs, rfl, ob, z4, _, rfl, (a, S, q), rfl, hs0, ok, bd, fun H1 e1 => ?_⟩
    refine ⟨_, rfl, a, _, dx, fs, _, rfl, e1 _ _ ob, T.c_Schedule, T.n_Schedule_prefix_lengths, l4, _, rfl, a, _, dx, fs, _, rfl, e1 _ _ ob, T.c_Schedule, T.n_Schedule_cycle_lengths, l6, ?_⟩
    refine ⟨⟨a, S, S.cnt q, (·.2), p4, p6⟩, rfl, hs0.ex e1, ok, e1 _ _ g4, e1 _ _ g6, ?_, csum2_le ok, fun H2 e2 => k H2 (e1.trans e2)⟩
    have := Sch.cnt_le ok q
    show Bd ((S.cnt q : Nat) : Int)
    exact bd.le2 (by omega)
end
end HR
namespace HR
open PySem L2
section
variable {P : Program} {w : World} {K : PySem.W.Frag} {mg : Str → Option Value} {base : Heap} {C : String → Addr}
structure MkMem where
  x : Addr
  dx : Addr
  v : V
  m : Tk
  S : Hp
  H0 : Hp
def sp_Member_init (C : String → Addr) (K : PySem.W.Frag) : Sp := Spec (α := MkMem) (fun z => [.ref z.x, z.v]) fun z H Q =>
  Ex z.S z.H0 ∧ z.H0 z.x = none ∧ z.H0 z.dx = none ∧ z.dx ≠ z.x ∧ H = upd (upd z.H0 z.dx (.own z.x)) z.x (.ins (C "Member") z.dx []) ∧ TkAt K z.S z.v z.m ∧ TkFine z.m ∧ ∀ H', Ex z.H0 H' → MemAt C K (ext z.S z.H0 H') (.ref z.x) z.m → Q .non H'
theorem K_Member (T : Txt K mg C) : C8.Mak P w K mg base 4 "Member" (C "Member") (sp_Member_init C K) [] :=
  mak_of T.i_Member sc_Member___init__ (fun _ => rfl) fun f cdv A outer s H z Q E hr h => by
    obtain ⟨x, dx, v, m, S, H0⟩ := z
    dsimp only at h ⊢
    obtain ⟨hS, nx, ndx, ne, rfl, ⟨a, p, c, rfl, hs, hp, hc⟩, ok, k⟩ := h
    refine ⟨_, (pss_cons (ksfld K rfl (pv 0) (pe_ix (kix_any K rfl) (pv 1) pe_int (fun _ _ => rfl)) rfl)
    (pss_cons (ksfld K rfl (pv 0) (pe_ix (kix_any K rfl) (pv 1) pe_int (fun _ _ => rfl)) rfl)
    (pss_one (ksfld K rfl (pv 0) (C8.pe_mk (K_Schedule T) hr (by omega) (by rfl) (pa_cons (pe_ix (kix_any K rfl) (pv 1) pe_int (fun _ _ => rfl)) (pa_cons (pe_ix (kix_any K rfl) (pv 1) pe_int (fun _ _ => rfl)) pa_nil))) rfl)))), ?_⟩
    have t0 := ((Stn.start hS).lay (l := dx) (o := .own x) ndx (fun _ h => nomatch h)).cell (l := x) (o := .ins (C "Member") dx []) (by rw [upd_ne ne.symm]; exact nx)
    have lk : ∀ {f g : Str} {v : V} {fs : List (Str × V)}, g = f → (putF f v fs).lookup g = some v := fun e => by rw [lookup_putF, if_pos e]
    have ln : ∀ {f g : Str} {v : V} {fs : List (Str × V)}, ¬ g = f → (putF f v fs).lookup g = fs.lookup g := fun e => by rw [lookup_putF, if_neg e]
    have t1 := t0.put (o := .ins (C "Member") dx (putF "name" (.str m.name) [])) List.mem_cons_self
    have t2 := t1.put (o := .ins (C "Member") dx (putF "rank" (.int m.rank) (putF "name" (.str m.name) []))) List.mem_cons_self
    refine ⟨_, rfl, a, _, 0, _, rfl, rfl, (hs.ex t0.sub).ex t0.cur, rfl, _, rfl, x, _, dx, _, rfl, upd_same, T.c_Member, T.n_Member_name, by decide, ?_⟩
    refine ⟨_, rfl, a, _, 1, _, rfl, rfl, (hs.ex t1.sub).ex t1.cur, rfl, _, rfl, x, _, dx, _, rfl, upd_same, T.c_Member, T.n_Member_rank, by show 1 < 1000; decide, ?_⟩
    refine ⟨_, rfl, a, _, 2, _, rfl, rfl, (hs.ex t2.sub).ex t2.cur, rfl, _, rfl, a, _, 3, _, rfl, rfl, (hs.ex t2.sub).ex t2.cur, rfl, fun y dy ny ndy ney => ?_⟩
    refine ⟨⟨y, dy, p, c, m.sch, _, _⟩, rfl, t2.cur, ny, ndy, ney, rfl, hp.ex t2.sub, hc.ex t2.sub, ok.sc.lp, ok.sc.lc, fun H' e hsch => ⟨rfl, ?_⟩⟩
    have hx : ∀ l ∈ [x], (upd (upd (upd (upd H0 dx (.own x)) x (.ins (C "Member") dx [])) x (.ins (C "Member") dx (putF "name" (.str m.name) []))) x (.ins (C "Member") dx (putF "rank" (.int m.rank) (putF "name" (.str m.name) [])))) l ≠ none := fun l hl => by
      cases List.mem_singleton.mp hl
      rw [upd_same]
      exact fun q => nomatch q
    have t3 := t2.step hx e
    refine ⟨_, rfl, x, _, dx, _, rfl, e _ _ upd_same, T.c_Member, T.n_Member_schedule, by show 2 < 1000; decide, ?_⟩
    have t4 := (t3.put (o := .ins (C "Member") dx (putF "schedule" (.ref y) (putF "rank" (.int m.rank) (putF "name" (.str m.name) [])))) List.mem_cons_self).freeze (l := x) upd_same (fun h => nomatch h)
    refine k _ t4.keep ?_
    have up := t4.fin hS
    refine ⟨x, dx, _, y, rfl, up _ _ upd_same, (ln (by decide +kernel)).trans ((ln (by decide +kernel)).trans (lk rfl)), (ln (by decide +kernel)).trans (lk rfl), lk rfl, SchAt.ex ((Ex.new (t3.loc x List.mem_cons_self).1).trans up) hsch⟩
end
end HR
namespace HR
open PySem L2
section
variable {P : Program} {w : World} {K : PySem.W.Frag} {mg : Str → Option Value} {base : Heap} {C : String → Addr}
def sp_checked_hall (C : String → Addr) (K : PySem.W.Frag) : Sp := Spec (α := V × List Tk) (fun x => [x.1]) fun x H Q => HallAt K H x.1 x.2 ∧ HallOk x.2 ∧ ∀ v H', Ex H H' → MemsAt C K H' v x.2 → Q v H'
theorem C_checked_hall (T : Txt K mg C) : C8.Cal P w K mg base 6 "checked_hall" (sp_checked_hall C K) [] :=
  cal_of T.f_checked_hall sc_checked_hall (fun _ => rfl) fun f cdv A outer s H x Q E hr h => by
    obtain ⟨v, ms⟩ := x
    dsimp only at h ⊢
    obtain ⟨hh, ok, k⟩ := h
    have hh0 := hh
    obtain ⟨a, xs, rfl, hs, hp⟩ := hh
    refine ⟨_, (pss_cons (ps_if (pt_not (pt_val (C8.pe_c (C_is_hall T) hr (by omega) (by rfl) (pa_cons (pv 0) pa_nil)))) (pss_one ps_never) pss_nil)
    (pss_one (ps_ret (pe_lc (own := [("talker", 1)]) rfl sc_checked_hall.nd (kpi_any K rfl (pv 0)) (blkOk_by (own := [("talker", 1)]) (N := N_checked_hall) (sc := C8.fnScope s_checked_hall) (by decide +kernel)) (fun _ _ _ _ _ => (pg_name (i := 1) sc_checked_hall.nd rfl (.inl rfl))) (fun _ _ _ _ _ => pts_nil) (fun _ _ _ _ _ => (C8.pe_mk (K_Member T) hr (by omega) (by rfl) (pa_cons (pv 1) pa_nil))))))), ?_⟩
    refine ⟨_, rfl, (.ref a, ms), rfl, hh0, ok, fun H1 e1 => ⟨true, rfl, iteF (next1 ?_)⟩⟩
    dsimp only
    refine ret1 ?_
    refine lcA (S := H1) (as := ms) (fun x m => TkAt K H1 x m) (fun _ => true) (fun y m H => MemAt C K H y m) (Ex.refl _) (fun Q' q => ⟨_, rfl, q⟩) (hs.ex e1) (Paired.imp hp fun _ _ q => q.ex e1)
      (fun y b H H' e q => q.ex e) (by have := ok.len; omega) (fun i x m Sc H' s1 s2 s3 hi hm hr Ct Cn q _ => ⟨rfl, ?_⟩) fun D ys H' hD e hd hq => ?_
    · refine ⟨_, rfl, fun y dy ny ndy ne => ⟨⟨y, dy, x, m, Sc, H'⟩, rfl, s2, ny, ndy, ne, rfl, hr.ex s1, ok.all m (List.mem_of_getElem? hm), fun H2 e2 hM => ⟨rfl, q rfl _ _ e2 hM⟩⟩⟩
    · rw [filter_true, ext_self e] at hq
      exact k _ _ (e1.trans e) ⟨D, ys, rfl, hd, hq⟩
end
end HR
namespace HR
open PySem L2
section
variable {P : Program} {w : World} {K : PySem.W.Frag} {mg : Str → Option Value} {base : Heap} {C : String → Addr}
def sp_check_rank : Sp := Spec (α := Int) (fun x => [.int x]) fun x H Q => 1 ≤ x ∧ x ≤ 10 ∧ Q .non H
theorem C_check_rank (T : Txt K mg C) : C8.Cal P w K mg base 2 "check_rank" sp_check_rank [] :=
  cal_of T.f_check_rank sc_check_rank (fun _ => rfl) fun f cdv A outer s H x Q E hr h => by
    obtain ⟨h1, h2, k⟩ := h
    refine ⟨_, (pss_one (ps_if (pt_not (pt_val (C8.pe_c (C_is_integer T) hr (by omega) (by rfl) (pa_cons (pv 0) (pa_cons pe_int (pa_cons (C8.pe_gc (by rfl) T.k_MAX_RANK) pa_nil)))))) (pss_one ps_never) pss_nil)), ?_⟩
    refine ⟨_, rfl, (.int x, 1, some 10), rfl, .inl ⟨x, rfl⟩, true, by simp [isIntB, h1, h2], ?_⟩
    exact k
end
end HR
namespace HR
open PySem L2
section
variable {P : Program} {w : World} {K : PySem.W.Frag} {mg : Str → Option Value} {base : Heap} {C : String → Addr}
def sp_check_tick : Sp := Spec (α := Int) (fun x => [.int x]) fun x H Q => 0 ≤ x ∧ Q .non H
theorem C_check_tick (T : Txt K mg C) : C8.Cal P w K mg base 2 "check_tick" sp_check_tick [] :=
  cal_of T.f_check_tick sc_check_tick (fun _ => rfl) fun f cdv A outer s H x Q E hr h => by
    obtain ⟨h1, k⟩ := h
    refine ⟨_, (pss_one (ps_if (pt_not (pt_val (C8.pe_c (C_is_integer_d2 T) hr (by omega) (by rfl) (pa_cons (pv 0) (pa_cons pe_int pa_nil))))) (pss_one ps_never) pss_nil)), ?_⟩
    refine ⟨_, rfl, (.int x, 0, none), rfl, .inl ⟨x, rfl⟩, true, by simp [isIntB, h1], ?_⟩
    exact k
end
end HR
namespace HR
open PySem L2
section
variable {P : Program} {w : World} {K : PySem.W.Frag} {mg : Str → Option Value} {base : Heap} {C : String → Addr}
def sp_rank_length (C : String → Addr) (K : PySem.W.Frag) : Sp := Spec (α := V × List Tk × Int × Int) (fun x => [x.1, .int x.2.2.1, .int x.2.2.2]) fun x H Q => MemsAt C K H x.1 x.2.1 ∧ HallOk x.2.1 ∧ Bd x.2.2.2 ∧ ∀ H', Ex H H' → Q (.int (rankLen x.2.1 x.2.2.1 x.2.2.2)) H'
theorem C_rank_length (T : Txt K mg C) : C8.Cal P w K mg base 3 "rank_length" (sp_rank_length C K) [] :=
  cal_of T.f_rank_length sc_rank_length (fun _ => rfl) fun f cdv A outer s H x Q E hr h => by
    obtain ⟨v, ms, r, q⟩ := x
    dsimp only at h ⊢
    obtain ⟨⟨a, xs, rfl, hs, hp⟩, ok, bd, k⟩ := h
    have h10 := ok.len
    refine ⟨_, (pss_one (ps_ret (pe_callB (ksum K rfl) (by rfl) T.b_sum bt_sum (pa_cons (pe_lc (own := [("member", 3)]) rfl sc_rank_length.nd (kpi_any K rfl (pv 0)) (blkOk_by (own := [("member", 3)]) (N := N_rank_length) (sc := C8.fnScope s_rank_length) (by decide +kernel)) (fun _ _ _ _ _ => (pg_name (i := 3) sc_rank_length.nd rfl (.inl rfl))) (fun _ _ _ _ _ => (pts_one (pt_cmpR op_eq (kfld K rfl (pv 3) rfl) (pv 1) (nomark _)))) (fun _ _ _ _ _ => (C8.pe_mt (M_Schedule_length_ready T) hr (by omega) (kfld K rfl (pv 3) rfl) (pa_cons (pv 2) pa_nil)))) pa_nil)))), ?_⟩
    refine ret1 (cb1 ?_)
    refine lcV (as := ms) (fun x t => MemAt C K H x t) (fun m => decide (m.rank = r)) (fun m => .int (lenR m q)) (fun Q' z => ⟨_, rfl, z⟩) (Sq.l hs) hp (by omega)
      (fun i x b H' e hi hb hm Ct Cn q1 q0 => ⟨rfl, ?_⟩) fun D H' hD e hd => ?_
    · obtain ⟨a2, dx, fs, s2, rfl, h0, h1, h2, h3, h4⟩ := hm.ex e
      refine ⟨_, rfl, a2, _, dx, fs, _, rfl, h0, T.c_Member, T.n_Member_rank, h2, _, rfl, rfl, _, rfl, ?_⟩
      rw [dec_int]
      by_cases hb2 : b.rank = r
      · rw [beq_iff_eq.mpr hb2]
        obtain ⟨dx2, fs2, o2, r2⟩ := h4.ob
        refine iteT ⟨_, rfl, a2, _, dx, fs, _, rfl, h0, T.c_Member, T.n_Member_schedule, h3, s2, dx2, fs2, rfl, o2, r2.2.2.2.2.2.2.2.2.2.2, ?_⟩
        exact ⟨_, rfl, (s2, b.sch, q), rfl, h4, (ok.all b (List.mem_of_getElem? hb)).sc, bd, fun H2 e2 => q1 (decide_eq_true hb2) H2 e2⟩
      · rw [beq_eq_false_iff_ne.mpr hb2]
        exact iteF (q0 (decide_eq_false hb2) H' (Ex.refl _))
    · exact ⟨D, (ms.filter fun (m : Tk) => decide (m.rank = r)).map fun (m : Tk) => lenR m q, rfl, SqL.of (by rw [hd, List.map_map]; rfl), k H' e⟩
end
end HR
namespace HR
open PySem L2
section
variable {P : Program} {w : World} {K : PySem.W.Frag} {mg : Str → Option Value} {base : Heap} {C : String → Addr}
def sp_left_index (C : String → Addr) (K : PySem.W.Frag) : Sp := Spec (α := V × List Tk × Int × Int) (fun x => [x.1, .int x.2.2.1, .int x.2.2.2]) fun x H Q => MemsAt C K H x.1 x.2.1 ∧ HallOk x.2.1 ∧ Bd x.2.2.2 ∧ ∀ H', Ex H H' → Q (.int (lix x.2.1 x.2.2.1 x.2.2.2)) H'
theorem C_left_index (T : Txt K mg C) : C8.Cal P w K mg base 4 "left_index" (sp_left_index C K) [] :=
  cal_of T.f_left_index sc_left_index (fun _ => rfl) fun f cdv A outer s H x Q E hr h => by
    obtain ⟨v, ms, r, q⟩ := x
    dsimp only at h ⊢
    obtain ⟨hs, ok, bd, k⟩ := h
    refine ⟨_, (pss_one (ps_ret (pe_op op_add (pv 2) (C8.pe_c (C_rank_length T) hr (by omega) (by rfl) (pa_cons (pv 0) (pa_cons (pv 1) (pa_cons (pv 2) pa_nil))))))), ?_⟩
    exact ⟨_, rfl, _, rfl, _, rfl, _, rfl, (v, ms, r, q), rfl, hs, ok, bd, fun H' e => ⟨_, _, rfl, rfl, k H' e⟩⟩
end
end HR
namespace HR
open PySem L2
section
variable {P : Program} {w : World} {K : PySem.W.Frag} {mg : Str → Option Value} {base : Heap} {C : String → Addr}
def sp_quiet_among (C : String → Addr) (K : PySem.W.Frag) : Sp := Spec (α := V × List Tk × Int × Int) (fun x => [x.1, .int x.2.2.1, .int x.2.2.2]) fun x H Q => MemsAt C K H x.1 x.2.1 ∧ HallOk x.2.1 ∧ Bd x.2.2.2 ∧ 0 ≤ x.2.2.2 ∧ ∀ H', Ex H H' → Q (.int (qa x.2.1 x.2.2.1 x.2.2.2)) H'
theorem C_quiet_among (T : Txt K mg C) : C8.Cal P w K mg base 5 "quiet_among" (sp_quiet_among C K) [] :=
  cal_of T.f_quiet_among sc_quiet_among (fun _ => rfl) fun f cdv A outer s H x Q E hr h => by
    obtain ⟨v, ms, r, L⟩ := x
    dsimp only at h ⊢
    obtain ⟨hs, ok, bd, l0, k⟩ := h
    refine ⟨_, (pss_cons (ps_par (i := 3) (j := 4) (by rfl) sc_quiet_among.nd rfl rfl (by decide) rfl rfl (pa_cons pe_int (pa_cons (pv 2) pa_nil)) (by rfl))
    (pss_cons (ps_while PassesOwn.never (pt_cmpR op_lt (pv 3) (pv 4) (nomark _)) (pss_cons (ps_set (i := 5) sc_quiet_among.nd rfl (.inl rfl) (pe_op op_fdivW (pe_op op_add (pv 3) (pv 4)) pe_int))
    (pss_one (ps_if (pt_cmpR op_lt (C8.pe_c (C_left_index T) hr (by omega) (by rfl) (pa_cons (pv 0) (pa_cons (pv 1) (pa_cons (pv 5) pa_nil)))) (pv 2) (nomark _)) (pss_one (ps_set (i := 3) sc_quiet_among.nd rfl (.inl rfl) (pe_op op_add (pv 5) pe_int))) (pss_one (ps_set (i := 4) sc_quiet_among.nd rfl (.inl rfl) (pv 5)))))))
    (pss_one (ps_ret (pv 3))))), ?_⟩
    refine ⟨_, rfl, _, _, rfl, ?_⟩
    dsimp only
    refine seq1 ⟨fun m σ H' => ∃ (lo hi : Int) (x : Option V), σ = [some v, some (.int r), some (.int L), some (.int lo), some (.int hi), x] ∧ Ex H H' ∧ m = (hi - lo).toNat ∧ 0 ≤ lo ∧ lo ≤ hi ∧ hi ≤ L ∧ L ≤ lix ms r hi ∧ (∀ p, 0 ≤ p → p < lo → lix ms r p < L),
      ⟨_, 0, L, _, rfl, Ex.refl H, rfl, Int.le_refl 0, l0, Int.le_refl L, lix_ge ok.sch r L, fun p h1 h2 => by omega⟩, ?_⟩
    rintro m σ H' ⟨lo, hi, x, rfl, e, rfl, h0, h1, h2, h3, h4⟩
    refine ⟨_, rfl, _, rfl, _, _, rfl, rfl, _, rfl, ?_⟩
    by_cases hlt : lo < hi
    · rw [decide_eq_true hlt]
      have d1 := Int.mul_ediv_add_emod (lo + hi) 2
      have d2 := Int.emod_lt_of_pos (lo + hi) (show (0 : Int) < 2 by decide)
      have d3 := Int.emod_nonneg (lo + hi) (show (2 : Int) ≠ 0 by decide)
      refine iteT ⟨fun σ' H2 => ∃ m', m' < (hi - lo).toNat ∧ ∃ (lo hi : Int) (x : Option V), σ' = [some v, some (.int r), some (.int L), some (.int lo), some (.int hi), x] ∧ Ex H H2 ∧ m' = (hi - lo).toNat ∧ 0 ≤ lo ∧ lo ≤ hi ∧ hi ≤ L ∧ L ≤ lix ms r hi ∧ (∀ p, 0 ≤ p → p < lo → lix ms r p < L), fun σ' H2 z => z, ?_⟩
      refine ⟨_, rfl, _, rfl, _, _, rfl, rfl, _, _, rfl, rfl, divW (by decide) (top_small (by decide)), ?_⟩
      refine ⟨_, rfl, _, rfl, _, rfl, (v, ms, r, (lo + hi) / 2), rfl, hs.ex e, ok, bd.le (show 0 ≤ (lo + hi) / 2 by omega) (show (lo + hi) / 2 ≤ L by omega), fun H2 e2 => ⟨_, rfl, _, _, rfl, rfl, _, rfl, ?_⟩⟩
      by_cases hc : lix ms r ((lo + hi) / 2) < L
      · rw [decide_eq_true hc]
        refine iteT ⟨_, rfl, _, _, rfl, rfl, ?_⟩
        refine ⟨_, ?_, (lo + hi) / 2 + 1, hi, _, rfl, e.trans e2, rfl, by omega, by omega, h2, h3, fun p p0 p1 => ?_⟩
        · omega
        · have := lix_lt ok.sch r (show p ≤ (lo + hi) / 2 by omega)
          omega
      · rw [decide_eq_false hc]
        refine iteF ⟨_, rfl, ?_⟩
        refine ⟨_, ?_, lo, (lo + hi) / 2, _, rfl, e.trans e2, rfl, h0, by omega, by omega, by omega, h4⟩
        omega
    · rw [decide_eq_false hlt]
      refine iteF ⟨_, rfl, ?_⟩
      have : lo = hi := by omega
      subst this
      have := k H' e
      rw [qa_eq ok.sch ⟨h0, h3, h4⟩] at this
      exact this
end
end HR
namespace HR
open PySem L2
section
variable {P : Program} {w : World} {K : PySem.W.Frag} {mg : Str → Option Value} {base : Heap} {C : String → Addr}
/-- the members, the rank less one, the tick -/
def sp_left_among (C : String → Addr) (K : PySem.W.Frag) : Sp := Spec (α := V × List Tk × Nat × Int) (fun x => [x.1, .int ((x.2.2.1 : Int) + 1), .int x.2.2.2]) fun x H Q => MemsAt C K H x.1 x.2.1 ∧ HallOk x.2.1 ∧ x.2.2.1 ≤ 10 ∧ Bd x.2.2.2 ∧ 0 ≤ x.2.2.2 ∧ ∀ H', Ex H H' → Q (.int (la x.2.1 x.2.2.2 x.2.2.1)) H'
theorem C_left_among (T : Txt K mg C) : C8.Cal P w K mg base 6 "left_among" (sp_left_among C K) [] :=
  cal_of T.f_left_among sc_left_among (fun _ => rfl) fun f cdv A outer s H x Q E hr h => by
    obtain ⟨v, ms, r, L⟩ := x
    dsimp only at h ⊢
    obtain ⟨hs, ok, r10, bd, l0, k⟩ := h
    refine ⟨_, (pss_cons (ps_set (i := 3) sc_left_among.nd rfl (.inl rfl) (pv 2))
    (pss_cons (ps_for PassesOwn.never rfl (pi_range2 (by rfl) T.b_range (pa_cons pe_int (pa_cons (pv 1) pa_nil))) (pg_name (i := 4) sc_left_among.nd rfl (.inl rfl)) (pss_one (ps_set (i := 3) sc_left_among.nd rfl (.inl rfl) (C8.pe_c (C_quiet_among T) hr (by omega) (by rfl) (pa_cons (pv 0) (pa_cons (pv 4) (pa_cons (pv 3) pa_nil)))))))
    (pss_one (ps_ret (pv 3))))), ?_⟩
    refine ⟨_, rfl, ?_⟩
    dsimp only [gName]
    refine seq1 ⟨_, rfl, _, _, rfl, by omega, for_range (lo := 1) (n := ((r : Int) + 1 - 1).toNat) (fun i σ H' => ∃ x : Option V, σ = [some v, some (.int ((r : Int) + 1)), some (.int L), some (.int (la ms L i)), x] ∧ Ex H H') ⟨_, rfl, Ex.refl H⟩ ?_ ?_⟩
    · rintro i σ H' hi ⟨x, rfl, e⟩
      refine ⟨_, rfl, _, rfl, _, rfl, (v, ms, 1 + (i : Int), la ms L i), rfl, hs.ex e, ok, bd.le (la_nonneg ok.sch l0 i) (la_le ok.sch l0 i), la_nonneg ok.sch l0 i, fun H2 e2 => ⟨some (.int (1 + (i : Int))), ?_, e.trans e2⟩⟩
      show [some v, some (.int ((r : Int) + 1)), some (.int L), some (.int (qa ms (1 + (i : Int)) (la ms L i))), some (.int (1 + (i : Int)))] = _
      rw [Int.add_comm 1 (i : Int)]
      rfl
    · rintro σ H' ⟨x, rfl, e⟩
      refine ⟨_, rfl, ?_⟩
      rw [show ((r : Int) + 1 - 1).toNat = r by omega]
      exact k H' e
end
end HR
namespace HR
open PySem L2
section
variable {P : Program} {w : World} {K : PySem.W.Frag} {mg : Str → Option Value} {base : Heap} {C : String → Addr}
def sp_checked (C : String → Addr) (K : PySem.W.Frag) : Sp := Spec (α := V × List Tk × Int) (fun x => [x.1, .int x.2.2]) fun x H Q => HallAt K H x.1 x.2.1 ∧ HallOk x.2.1 ∧ 1 ≤ x.2.2 ∧ x.2.2 ≤ 10 ∧ ∀ v H', Ex H H' → MemsAt C K H' v x.2.1 → Q v H'
theorem C_checked (T : Txt K mg C) : C8.Cal P w K mg base 7 "checked" (sp_checked C K) [] :=
  cal_of T.f_checked sc_checked (fun _ => rfl) fun f cdv A outer s H x Q E hr h => by
    obtain ⟨v, ms, r⟩ := x
    dsimp only at h ⊢
    obtain ⟨hh, ok, r1, r2, k⟩ := h
    refine ⟨_, (pss_cons (ps_set (i := 2) sc_checked.nd rfl (.inl rfl) (C8.pe_c (C_checked_hall T) hr (by omega) (by rfl) (pa_cons (pv 0) pa_nil)))
    (pss_cons (ps_expr (C8.pe_c (C_check_rank T) hr (by omega) (by rfl) (pa_cons (pv 1) pa_nil)))
    (pss_one (ps_ret (pv 2))))), ?_⟩
    refine ⟨_, rfl, (v, ms), rfl, hh, ok, fun m H1 e1 hm => ?_⟩
    exact ⟨_, rfl, r, rfl, r1, r2, _, rfl, k _ _ e1 hm⟩
end
end HR
namespace HR
open PySem L2
section
variable {P : Program} {w : World} {K : PySem.W.Frag} {mg : Str → Option Value} {base : Heap} {C : String → Addr}
/-- the hall, the rank less one, the tick -/
def sp_left_before (K : PySem.W.Frag) : Sp := Spec (α := V × List Tk × Nat × Int) (fun x => [x.1, .int ((x.2.2.1 : Int) + 1), .int x.2.2.2]) fun x H Q => HallAt K H x.1 x.2.1 ∧ HallOk x.2.1 ∧ x.2.2.1 < 10 ∧ Bd x.2.2.2 ∧ 0 ≤ x.2.2.2 ∧ ∀ H', Ex H H' → Q (.int (la x.2.1 x.2.2.2 x.2.2.1)) H'
theorem C_left_before (T : Txt K mg C) : C8.Cal P w K mg base 8 "left_before" (sp_left_before K) [] :=
  cal_of T.f_left_before sc_left_before (fun _ => rfl) fun f cdv A outer s H x Q E hr h => by
    obtain ⟨v, ms, r, t⟩ := x
    dsimp only at h ⊢
    obtain ⟨hh, ok, r1, bd, t0, k⟩ := h
    refine ⟨_, (pss_cons (ps_set (i := 3) sc_left_before.nd rfl (.inl rfl) (C8.pe_c (C_checked T) hr (by omega) (by rfl) (pa_cons (pv 0) (pa_cons (pv 1) pa_nil))))
    (pss_cons (ps_expr (C8.pe_c (C_check_tick T) hr (by omega) (by rfl) (pa_cons (pv 2) pa_nil)))
    (pss_one (ps_ret (C8.pe_c (C_left_among T) hr (by omega) (by rfl) (pa_cons (pv 3) (pa_cons (pv 1) (pa_cons (pv 2) pa_nil)))))))), ?_⟩
    refine ⟨_, rfl, _, rfl, (v, ms, (r : Int) + 1), rfl, hh, ok, (show (1 : Int) ≤ (r : Int) + 1 by omega), (show (r : Int) + 1 ≤ 10 by omega), fun m H1 e1 hm => ?_⟩
    exact ⟨_, rfl, t, rfl, t0, _, rfl, _, rfl, _, rfl, (m, ms, r, t), rfl, hm, ok, Nat.le_of_lt r1, bd, t0, fun H2 e2 => k _ (e1.trans e2)⟩
end
end HR
namespace HR
open PySem L2
section
variable {P : Program} {w : World} {K : PySem.W.Frag} {mg : Str → Option Value} {base : Heap} {C : String → Addr}
def sp_quiet_before (K : PySem.W.Frag) : Sp := Spec (α := V × List Tk × Nat × Int) (fun x => [x.1, .int ((x.2.2.1 : Int) + 1), .int x.2.2.2]) fun x H Q => HallAt K H x.1 x.2.1 ∧ HallOk x.2.1 ∧ x.2.2.1 < 10 ∧ Bd x.2.2.2 ∧ 0 ≤ x.2.2.2 ∧ ∀ H', Ex H H' → Q (.int (la x.2.1 x.2.2.2 (x.2.2.1 + 1))) H'
theorem C_quiet_before (T : Txt K mg C) : C8.Cal P w K mg base 8 "quiet_before" (sp_quiet_before K) [] :=
  cal_of T.f_quiet_before sc_quiet_before (fun _ => rfl) fun f cdv A outer s H x Q E hr h => by
    obtain ⟨v, ms, r, t⟩ := x
    dsimp only at h ⊢
    obtain ⟨hh, ok, r1, bd, t0, k⟩ := h
    refine ⟨_, (pss_cons (ps_set (i := 3) sc_quiet_before.nd rfl (.inl rfl) (C8.pe_c (C_checked T) hr (by omega) (by rfl) (pa_cons (pv 0) (pa_cons (pv 1) pa_nil))))
    (pss_cons (ps_expr (C8.pe_c (C_check_tick T) hr (by omega) (by rfl) (pa_cons (pv 2) pa_nil)))
    (pss_one (ps_ret (C8.pe_c (C_quiet_among T) hr (by omega) (by rfl) (pa_cons (pv 3) (pa_cons (pv 1) (pa_cons (C8.pe_c (C_left_among T) hr (by omega) (by rfl) (pa_cons (pv 3) (pa_cons (pv 1) (pa_cons (pv 2) pa_nil)))) pa_nil)))))))), ?_⟩
    refine ⟨_, rfl, _, rfl, (v, ms, (r : Int) + 1), rfl, hh, ok, (show (1 : Int) ≤ (r : Int) + 1 by omega), (show (r : Int) + 1 ≤ 10 by omega), fun m H1 e1 hm => ?_⟩
    refine ⟨_, rfl, t, rfl, t0, _, rfl, _, rfl, _, rfl, _, rfl, _, rfl, (m, ms, r, t), rfl, hm, ok, Nat.le_of_lt r1, bd, t0, fun H2 e2 => ?_⟩
    exact ⟨(m, ms, (r : Int) + 1, la ms t r), rfl, hm.ex e2, ok, bd.le (la_nonneg ok.sch t0 r) (la_le ok.sch t0 r), la_nonneg ok.sch t0 r, fun H3 e3 => k _ ((e1.trans e2).trans e3)⟩
end
end HR
namespace HR
open PySem L2
section
variable {P : Program} {w : World} {K : PySem.W.Frag} {mg : Str → Option Value} {base : Heap} {C : String → Addr}
theorem bd_digits {d : Int} {i : Nat} (h : d.natAbs < 10 ^ (60 * i)) (hi : i ≤ 63) : Bd d := by
  unfold Bd BIG
  have h1 : 10 ^ (60 * i) ≤ 10 ^ 3780 := Nat.pow_le_pow_right (by decide) (by omega)
  have h2 : (10 : Nat) ^ 3780 < 2 ^ 100000 := by decide +kernel
  exact Nat.lt_of_lt_of_le h (Nat.le_trans h1 (Nat.le_of_lt h2))
def sp_spring (K : PySem.W.Frag) : Sp := Spec (α := Addr × List Int) (fun x => [.ref x.1]) fun x H Q => SqL K H x.1 (x.2.map V.int) ∧ x.2.length ≤ 63 ∧ ∀ p H', H p = none → Ex H H' → SpringAt H' p (2 ^ 60) → Q (.ref p) H'
theorem C__law_spring (T : Txt K mg C) : C8.Cal P w K mg base 1 "_law_spring" (sp_spring K) [] :=
  cal_of T.f__law_spring sc__law_spring (fun _ => rfl) fun f cdv A outer s H x Q E hr h => by
    obtain ⟨a, ns⟩ := x
    dsimp only at h ⊢
    obtain ⟨hs, hl, k⟩ := h
    refine ⟨_, (pss_cons (ps_set (i := 1) sc__law_spring.nd rfl (.inl rfl) pe_int)
    (pss_cons (ps_set (i := 2) sc__law_spring.nd rfl (.inl rfl) pe_int)
    (pss_cons (ps_for PassesOwn.never rfl (kpi_any K rfl (pe_slice (ksl_list K rfl) (pv 0) po_none (po_some pe_int))) (pg_name (i := 3) sc__law_spring.nd rfl (.inl rfl)) (C8.pss_cut (ps_if (pt_cmpR op_ge (pe_callB call_abs (by rfl) T.b_abs bt_abs (pa_cons (pv 3) pa_nil)) (pe_op op_pow pe_int pe_int) (nomark _)) (pss_one (ps_set (i := 1) sc__law_spring.nd rfl (.inl rfl) (pe_op op_add (pe_op op_mulW (pv 1) (pe_op op_pow pe_int pe_int)) (pe_op op_mod (pe_callB call_abs (by rfl) T.b_abs bt_abs (pa_cons (pv 3) pa_nil)) (pe_op op_pow pe_int pe_int))))) pss_nil)
    (pss_one (ps_set (i := 2) sc__law_spring.nd rfl (.inl rfl) (pe_op op_mod (pe_op op_add (pe_op op_add (pe_op op_mulW (pv 2) pe_int) (pe_op op_mod (pv 3) pe_int)) pe_int) pe_int)))))
    (pss_one (ps_ret (pe_lst (pa_cons (pv 1) (pa_cons (pv 2) (pa_cons pe_int pa_nil))))))))), ?_⟩
    refine seq1 ?_
    dsimp only [tAsg, tC, gName]
    refine seq1 ?_
    dsimp only [tAsg, tC, gName]
    refine seq1 ?_
    refine ⟨_, rfl, _, rfl, a, _, rfl, hs, fun D nD => ?_⟩
    have hcut : cutV (ns.map V.int) none (some 63) = ns.map V.int := by
      rw [show (63 : Int) = ((63 : Nat) : Int) from rfl, cutHi, List.take_of_length_le (by rw [List.length_map]; exact hl)]
    rw [hcut]
    refine ⟨D, rfl, .inl ⟨⟨_, SqL.of upd_same⟩, for_list (xs := ns.map V.int) (fun i σ H' => ∃ (d s : Int) (x : Option V), σ = [some (.ref a), some (.int d), some (.int s), x] ∧ H' = upd H D (.lst (ns.map V.int)) ∧ 0 ≤ d ∧ d.natAbs < 10 ^ (60 * i) ∧ 0 ≤ s ∧ s < 2305843009213693951)
      ⟨0, 88651, none, rfl, rfl, by decide, by decide, by decide, by decide⟩ (fun i σ H' _ p => by obtain ⟨_, _, _, _, rfl, _⟩ := p; exact SqL.of upd_same) ?_ ?_⟩⟩
    · rintro i x σ H' hi ⟨d, sd, y, rfl, rfl, d0, d1, s0, s1⟩
      rw [List.getElem?_map] at hi
      obtain ⟨n, hn, rfl⟩ := Option.map_eq_some_iff.mp hi
      have hi63 : i ≤ 63 := by have := (List.getElem?_eq_some_iff.mp hn).1; omega
      have bdd : Bd d := bd_digits d1 hi63
      have b60 : Bd (10 ^ (60 : Int).toNat) := Bd.ofTop (top_ge (by decide +kernel))
      have small : ∀ z : Int, 0 ≤ z → z < 10 ^ 40 → Bd z := fun z z0 z1 => Bd.ofTop (top_small (by omega))
      have m0 := Int.emod_nonneg n (show (2305843009213693921 : Int) ≠ 0 by decide)
      have m1 := Int.emod_lt_of_pos n (show (0 : Int) < 2305843009213693921 by decide)
      refine ⟨fun σ H' => ∃ d', σ = [some (.ref a), some (.int d'), some (.int sd), some (.int n)] ∧ H' = upd H D (.lst (ns.map V.int)) ∧ 0 ≤ d' ∧ d'.natAbs < 10 ^ (60 * (i + 1)), ?_, ?_⟩
      · refine ⟨_, rfl, _, rfl, _, _, rfl, rfl, ⟨by decide, by decide, by decide⟩, _, _, rfl, rfl, _, rfl, ?_⟩
        have up : 10 ^ (60 * i) ≤ 10 ^ (60 * (i + 1)) := Nat.pow_le_pow_right (by decide) (by omega)
        by_cases hc : ((10 : Int) ^ (18 : Int).toNat) ≤ (if n < 0 then -n else n)
        · rw [decide_eq_true hc]
          refine iteT ⟨_, rfl, _, _, rfl, rfl, ⟨by decide, by decide, by decide⟩, _, _, rfl, rfl, Bd.mul bdd b60, _, rfl, _, rfl, _, _, rfl, rfl, ⟨by decide, by decide, by decide⟩, _, _, rfl, rfl, (show (0 : Int) < 10 ^ (60 : Int).toNat by decide +kernel), _, _, rfl, rfl, ?_⟩
          refine ⟨_, rfl, rfl, ?_⟩
          have q0 := Int.emod_nonneg (if n < 0 then -n else n) (show (10 : Int) ^ (60 : Int).toNat ≠ 0 by decide +kernel)
          have q1 := Int.emod_lt_of_pos (if n < 0 then -n else n) (show (0 : Int) < 10 ^ (60 : Int).toNat by decide +kernel)
          generalize (if n < 0 then -n else n) % 10 ^ (60 : Int).toNat = r at q0 q1
          have e60 : (10 : Int) ^ (60 : Int).toNat = ((10 ^ 60 : Nat) : Int) := by decide +kernel
          rw [e60] at q1 ⊢
          have e1 : 10 ^ (60 * (i + 1)) = 10 ^ (60 * i) * 10 ^ 60 := by rw [← Nat.pow_add]; rfl
          rw [e1]
          generalize 10 ^ (60 * i) = A at d1
          generalize 10 ^ 60 = B at q1 ⊢
          obtain ⟨dn, rfl⟩ : ∃ dn : Nat, d = dn := ⟨d.toNat, by omega⟩
          obtain ⟨rn, rfl⟩ : ∃ rn : Nat, r = rn := ⟨r.toNat, by omega⟩
          have d2 : dn + 1 ≤ A := by omega
          have := Nat.mul_le_mul_right B d2
          rw [Nat.add_mul, Nat.one_mul] at this
          refine ⟨by rw [← Int.natCast_mul]; omega, ?_⟩
          rw [← Int.natCast_mul, ← Int.natCast_add, Int.natAbs_natCast]
          omega
        · rw [decide_eq_false hc]
          exact iteF ⟨d, rfl, rfl, d0, Nat.lt_of_lt_of_le d1 up⟩
      · rintro σ H' ⟨d', rfl, rfl, h0, h1⟩
        refine ⟨_, rfl, _, _, rfl, rfl, Bd.mul (small _ s0 (by omega)) (small _ (by decide) (by decide)), _, rfl, _, _, rfl, rfl, (show (0 : Int) < 2305843009213693921 by decide), _, _, rfl, rfl, _, _, rfl, rfl, _, _, rfl, rfl, (show (0 : Int) < 2305843009213693951 by decide), ?_⟩
        exact ⟨d', _, _, rfl, rfl, h0, h1, Int.emod_nonneg _ (by decide), Int.emod_lt_of_pos _ (by decide)⟩
    · rintro σ H' ⟨d, sd, y, rfl, rfl, d0, d1, s0, s1⟩
      rw [List.length_map] at d1
      refine ⟨_, rfl, _, rfl, (by show 3 ≤ sizeLine; decide), fun p np => ?_⟩
      have e : Ex H (upd H D (.lst (ns.map V.int))) := Ex.new nD
      refine k p _ (e.free np) (e.trans (Ex.new np)) ⟨d, sd, 0, upd_same, d0, bd_digits d1 (by omega), s0, s1, Int.le_refl 0, by decide⟩
end
end HR
namespace HR
open PySem L2
section
variable {P : Program} {w : World} {K : PySem.W.Frag} {mg : Str → Option Value} {base : Heap} {C : String → Addr}
theorem C__law_draw (T : Txt K mg C) : C8.Cal P w K mg base 1 "_law_draw" sp_draw [] :=
  cal_of T.f__law_draw sc__law_draw (fun _ => rfl) fun f cdv A outer s H x Q E hr h => by
    obtain ⟨a, n, b⟩ := x
    dsimp only [drawPost] at h ⊢
    obtain ⟨⟨d, sd, c, e, d0, bd, s0, s1, c0, c1⟩, n0, n1, k⟩ := h
    refine ⟨_, (pss_cons (ps_if (pt_cmpR op_gt (pe_ix (kix_any K rfl) (pv 0) pe_int (fun _ _ => rfl)) pe_int (nomark _)) (pss_cons (ps_set (i := 2) sc__law_draw.nd rfl (.inl rfl) (pe_op op_mod (pe_ix (kix_any K rfl) (pv 0) pe_int (fun _ _ => rfl)) (pv 1)))
    (pss_cons (ps_asg (pe_op op_fdivW (pe_ix (kix_any K rfl) (pv 0) pe_int (fun _ _ => rfl)) (pv 1)) (pg_sub (pv 0) pe_int set_list))
    (pss_one (ps_ret (pv 2))))) pss_nil)
    (pss_cons (ps_asg (pe_op op_add (pe_ix (kix_any K rfl) (pv 0) pe_int (fun _ _ => rfl)) pe_int) (pg_sub (pv 0) pe_int set_list))
    (pss_cons (ps_set (i := 3) sc__law_draw.nd rfl (.inl rfl) (pe_op op_mod (pe_op op_mulW (pe_ix (kix_any K rfl) (pv 0) pe_int (fun _ _ => rfl)) (pe_ix (kix_any K rfl) (pv 0) pe_int (fun _ _ => rfl))) pe_int))
    (pss_cons (ps_asg (pe_op op_mod (pe_op op_add (pe_op op_add (pv 3) (pe_op op_mulW (pe_op op_mulW pe_int (pe_ix (kix_any K rfl) (pv 0) pe_int (fun _ _ => rfl))) (pe_ix (kix_any K rfl) (pv 0) pe_int (fun _ _ => rfl)))) pe_int) pe_int) (pg_sub (pv 0) pe_int set_list))
    (pss_one (ps_ret (pe_op op_mod (pe_op op_fdivW (pe_ix (kix_any K rfl) (pv 0) pe_int (fun _ _ => rfl)) pe_int) (pv 1)))))))), ?_⟩
    refine ⟨_, rfl, a, _, 0, _, rfl, rfl, Sq.l e, rfl, _, _, rfl, rfl, _, rfl, ?_⟩
    by_cases hd : 0 < d
    · rw [decide_eq_true hd]
      refine iteT ⟨_, rfl, a, _, 0, _, rfl, rfl, Sq.l e, rfl, _, rfl, _, _, rfl, rfl, n0, ?_⟩
      refine ⟨_, rfl, a, _, 0, _, rfl, rfl, Sq.l e, rfl, _, rfl, _, _, rfl, rfl, divW n0 n1, _, rfl, a, _, 0, 0, rfl, rfl, e, rfl, ?_⟩
      refine ⟨_, rfl, k _ _ (fun x o hx hh => by rw [upd_ne (fun q => hx (by rw [q]; exact List.mem_cons_self))]; exact hh) ?_ (Int.emod_nonneg _ (by omega)) (Int.emod_lt_of_pos _ n0)⟩
      exact ⟨d / n, sd, c, upd_same, Int.ediv_nonneg d0 (by omega), bd.le (Int.ediv_nonneg d0 (by omega)) (Int.ediv_le_self _ d0), s0, s1, c0, by omega⟩
    · rw [decide_eq_false hd]
      refine iteF (next1 ?_)
      dsimp only
      refine ⟨_, rfl, a, _, 2, _, rfl, rfl, Sq.l e, rfl, _, _, rfl, rfl, _, rfl, a, _, 2, 2, rfl, rfl, e, rfl, ?_⟩
      have small : ∀ z : Int, 0 ≤ z → z < 10 ^ 40 → Bd z := fun z z0 z1 => Bd.ofTop (top_small (by omega))
      have hM : ∀ x o, x ∉ [a] → H x = some o → (upd H a (.lst ([V.int d, V.int sd, V.int c].set 2 (.int (c + 1))))) x = some o := fun x o hx hh => by rw [upd_ne (fun q => hx (by rw [q]; exact List.mem_cons_self))]; exact hh
      have e2 : (upd H a (.lst ([V.int d, V.int sd, V.int c].set 2 (.int (c + 1))))) a = some (.lst [.int d, .int sd, .int (c + 1)]) := upd_same
      generalize upd H a (.lst ([V.int d, V.int sd, V.int c].set 2 (.int (c + 1)))) = H2 at e2 hM ⊢
      have m0 := Int.emod_nonneg (sd * sd) (show (2305843009213693951 : Int) ≠ 0 by decide)
      have m1 := Int.emod_lt_of_pos (sd * sd) (show (0 : Int) < 2305843009213693951 by decide)
      refine ⟨_, rfl, a, _, 1, _, rfl, rfl, Sq.l e2, rfl, _, rfl, a, _, 1, _, rfl, rfl, Sq.l e2, rfl, _, _, rfl, rfl, Bd.mul (small _ s0 (by omega)) (small _ s0 (by omega)), _, _, rfl, rfl, (show (0 : Int) < 2305843009213693951 by decide), ?_⟩
      refine ⟨_, rfl, _, rfl, a, _, 2, _, rfl, rfl, Sq.l e2, rfl, _, _, rfl, rfl, Bd.mul (small _ (by decide) (by decide)) (small _ (by omega) (by omega)), _, rfl, a, _, 1, _, rfl, rfl, Sq.l e2, rfl, _, _, rfl, rfl, Bd.mul (small _ (by omega) (by omega)) (small _ s0 (by omega)), _, _, rfl, rfl, _, _, rfl, rfl, _, _, rfl, rfl, (show (0 : Int) < 2305843009213693951 by decide), _, rfl, a, _, 1, 1, rfl, rfl, e2, rfl, ?_⟩
      refine ⟨_, rfl, a, _, 1, _, rfl, rfl, Sq.l upd_same, rfl, _, _, rfl, rfl, divW (by decide) (top_small (by decide)), _, rfl, _, _, rfl, rfl, n0, ?_⟩
      refine k _ _ (fun x o hx hh => by rw [upd_ne (fun q => hx (by rw [q]; exact List.mem_cons_self))]; exact hM x o hx hh) ?_ (Int.emod_nonneg _ (by omega)) (Int.emod_lt_of_pos _ n0)
      exact ⟨d, _, c + 1, upd_same, d0, bd, Int.emod_nonneg _ (by decide), Int.emod_lt_of_pos _ (by decide), by omega, by omega⟩
end
end HR
namespace HR
open PySem L2
section
variable {P : Program} {w : World} {K : PySem.W.Frag} {mg : Str → Option Value} {base : Heap} {C : String → Addr}
theorem C__law_talks (T : Txt K mg C) : C8.Cal P w K mg base 2 "_law_talks" (sp_talks K) [] :=
  cal_of T.f__law_talks sc__law_talks (fun _ => rfl) fun f cdv A outer s H x Q E hr h => by
    obtain ⟨a, lo, more, m, b, S⟩ := x
    dsimp only [talksPost] at h ⊢
    obtain ⟨hS, nS, sp, m0, hm, l0, l1, k⟩ := h
    have ltop : m.natAbs ≤ TOP := top_small (by omega)
    refine ⟨_, (pss_cons (ps_set (i := 4) sc__law_talks.nd rfl (.inl rfl) (pe_op op_add (pv 1) (C8.pe_c (C__law_draw T) hr (by omega) (by rfl) (pa_cons (pv 0) (pa_cons (pv 2) pa_nil)))))
    (pss_one (ps_ret (pe_lc (own := [("_law_k", 5)]) rfl sc__law_talks.nd (pi_range1 (by rfl) T.b_range (pa_cons (pv 4) pa_nil)) (blkOk_by (own := [("_law_k", 5)]) (N := N__law_talks) (sc := C8.fnScope s__law_talks) (by decide +kernel)) (fun _ _ _ _ _ => (pg_name (i := 5) sc__law_talks.nd rfl (.inl rfl))) (fun _ _ _ _ _ => pts_nil) (fun _ _ _ _ _ => (pe_tup (pa_cons (pe_op op_add pe_int (C8.pe_c (C__law_draw T) hr (by omega) (by rfl) (pa_cons (pv 0) (pa_cons (pv 3) pa_nil)))) (pa_cons (pe_op op_add pe_int (C8.pe_c (C__law_draw T) hr (by omega) (by rfl) (pa_cons (pv 0) (pa_cons (pv 3) pa_nil)))) pa_nil)))))))), ?_⟩
    refine ⟨_, rfl, _, rfl, _, rfl, use_draw (b + 39) (sp.less (by omega)) (by omega) (top_small (by omega)) fun d H1 e1 sp1 d0 d1 => ?_⟩
    obtain ⟨n, rfl⟩ : ∃ n : Nat, d = n := ⟨d.toNat, by omega⟩
    refine ⟨_, _, rfl, rfl, ?_⟩
    have hn : ((lo : Int) + (n : Int)).toNat = lo + n := by omega
    have e1S : Ex S H1 := fun x o q => e1 x o (fun z => by rw [List.mem_singleton.mp z, nS] at q; cases q) (hS x o q)
    refine ⟨_, rfl, _, rfl, by omega, by omega, ?_⟩
    rw [hn]
    refine lcM (walk_range (lo := 0) (n := lo + n)) (S := S) (H1 := H1) [a] (fun i H' => SpringAt H' a (b + 2 * (lo + n - i))) (fun i y H' => ∃ t, (∃ p, y = .ref p ∧ SqT K H' p (pairV t)) ∧ TkIn m t) e1S (fun l hl => by rw [List.mem_singleton.mp hl]; exact nS)
      (fun i H' h l hl => by rw [List.mem_singleton.mp hl]; exact h.ne) (fun i H' D o hD h => h.upd hD) (fun i y H1 H2 e ⟨t, ⟨p, q, z⟩, r⟩ => ⟨t, ⟨p, q, Evl.ex_t e z⟩, r⟩) (by omega) (sp1.less (by omega)) (fun _ _ => trivial) ?_ ?_
    · rintro i x Sc H' H'' hi s1 s2 sM iv ⟨rfl, rfl⟩ Ct q
      refine ⟨rfl, ?_⟩
      refine ⟨_, rfl, _, rfl, use_draw (b + 2 * (lo + n - i) - 1) (iv.less (by omega)) (by omega) ltop fun d1 H1 e1 sp1 p0 p1 => ?_⟩
      refine ⟨_, _, rfl, rfl, _, rfl, _, rfl, use_draw (b + 2 * (lo + n - (i + 1))) (sp1.less (by omega)) (by omega) ltop fun d2 H2 e2 sp2 q0 q1 => ?_⟩
      refine ⟨_, _, rfl, rfl, (by show 2 ≤ sizeLine; decide), fun p np => ?_⟩
      have np2 : p ∉ [a] := fun z => by rw [List.mem_singleton.mp z] at np; exact sp2.ne np
      have fr : H'' p = none := by
        cases z : H'' p with
        | none => rfl
        | some o => rw [e2 p o np2 (e1 p o np2 z)] at np; cases np
      refine q _ _ ((e1.trans e2).trans (Ex.new np).m) (sp2.upd np2) ⟨(1 + d1, 1 + d2), ⟨p, rfl, SqT.of ?_⟩, by show 1 ≤ 1 + d1; omega, by show 1 + d1 ≤ m; omega, by show 1 ≤ 1 + d2; omega, by show 1 + d2 ≤ m; omega⟩
      rw [ext_new fr]
      exact upd_same
    · intro D ys H' hD e2 hd iv hl hp
      obtain ⟨ts, ht⟩ := ex_paired hp
      have e02 := e1.trans e2
      have hD0 : H D = none := by
        cases z : H D with
        | none => rfl
        | some o => rw [e1 D o (fun q => by rw [List.mem_singleton.mp q] at hD; exact sp1.ne hD) z] at hD; cases hD
      have hlen : ts.length = lo + n := by rw [← Paired.len ht]; exact hl
      refine k _ ts H' e02 (iv.less (by omega)) ⟨D, rfl, ys, ?_, Paired.imp ht fun y t ⟨⟨p, q, z⟩, _⟩ => ⟨p, q, ?_⟩⟩ (Paired.all ht fun y t h => h.2) (by omega) (by omega)
      · rw [ext_new hD0]; exact hd
      · refine Evl.ex_t (fun x o q => ?_) z
        by_cases z1 : H1 x = none
        · rw [ext_new z1] at q
          by_cases z0 : H x = none
          · rw [ext_new z0]; exact q
          · exfalso
            cases zz : H x with
            | none => exact z0 zz
            | some o' => rw [e1 x o' (fun q => by rw [List.mem_singleton.mp q] at z1; exact sp1.ne z1) zz] at z1; cases z1
        · rw [show ext S H1 H' x = S x from if_neg z1] at q
          rw [ext_old (hS x o q)]
          exact q
end
end HR
namespace HR
open PySem L2
section
variable {P : Program} {w : World} {K : PySem.W.Frag} {mg : Str → Option Value} {base : Heap} {C : String → Addr}
def poolA : List Str := ["a", "b", "abcdefgh", "zz", "m", "ba", "q", "xyz", "cc", "p"]
theorem nameOk_by {z : Str} (h : (decide (1 ≤ z.length) && decide (z.length ≤ 8) && z.cps.toList.all fun c => decide (97 ≤ c) && decide (c ≤ 122)) = true) : NameOk z := by
  simp only [Bool.and_eq_true, decide_eq_true_eq, List.all_eq_true] at h
  exact ⟨h.1.1, h.1.2, fun c hc => h.2 c hc⟩
theorem poolA_ok : NamesOk poolA := fun z hz => nameOk_by (List.all_eq_true.mp (show (poolA.all fun z => (decide (1 ≤ z.length) && decide (z.length ≤ 8) && z.cps.toList.all fun c => decide (97 ≤ c) && decide (c ≤ 122))) = true by decide +kernel) z hz)
theorem poolA_nd : poolA.Nodup := by decide +kernel
theorem C__law_hall (T : Txt K mg C) : C8.Cal P w K mg base 3 "_law_hall" (sp_hall K) [] :=
  cal_of T.f__law_hall sc__law_hall (fun _ => rfl) fun f cdv A outer s H x Q E hr h => by
    obtain ⟨a, n, m, b, S⟩ := x
    dsimp only [hallPost] at h ⊢
    obtain ⟨hS, nS, sp, n10, l0, l1, k⟩ := h
    have ltop : m.natAbs ≤ TOP := top_small (by omega)
    have t0 : Stm S H [a] [] S H := Stm.start hS fun l hl => by rw [List.mem_singleton.mp hl]; exact ⟨nS, sp.ne⟩
    have na : ∀ {Hc : Hp} {p : Addr} {b : Nat}, SpringAt Hc a b → Hc p = none → p ∉ [a] := fun h1 h2 z => h1.ne (by rw [List.mem_singleton.mp z] at h2; exact h2)
    have hMa : ∀ {Hc : Hp} {b : Nat}, SpringAt Hc a b → ∀ l ∈ [a], Hc l ≠ none := fun h l hl => by rw [List.mem_singleton.mp hl]; exact h.ne
    have neSome : ∀ {Hc : Hp} {p : Addr} {o : HO}, Hc p = some o → Hc p ≠ none := fun h q => by rw [h] at q; cases q
    refine ⟨_, (pss_cons (ps_set (i := 3) sc__law_hall.nd rfl (.inl rfl) (pe_lst (pa_cons pe_str (pa_cons pe_str (pa_cons pe_str (pa_cons pe_str (pa_cons pe_str (pa_cons pe_str (pa_cons pe_str (pa_cons pe_str (pa_cons pe_str (pa_cons pe_str pa_nil))))))))))))
    (pss_cons (ps_set (i := 4) sc__law_hall.nd rfl (.inl rfl) (pe_ix (kix_any K rfl) (pe_lst (pa_cons pe_int (pa_cons pe_int (pa_cons pe_int pa_nil)))) (C8.pe_c (C__law_draw T) hr (by omega) (by rfl) (pa_cons (pv 0) (pa_cons pe_int pa_nil))) (fun _ _ => rfl)))
    (pss_cons (ps_set (i := 5) sc__law_hall.nd rfl (.inl rfl) (pe_lst pa_nil))
    (pss_cons (ps_for PassesOwn.never rfl (pi_range1 (by rfl) T.b_range (pa_cons (C8.pe_c (C__law_draw T) hr (by omega) (by rfl) (pa_cons (pv 0) (pa_cons (pe_op op_add (pv 1) pe_int) pa_nil))) pa_nil)) (pg_name (i := 6) sc__law_hall.nd rfl (.inl rfl)) (pss_cons (ps_set (i := 7) sc__law_hall.nd rfl (.inl rfl) (kbm K rfl PySem.F.plainAttrs_list PySem.F.slot_list_pop PySem.F.type_list_pop mt_popAt (pv 3) (pa_cons (C8.pe_c (C__law_draw T) hr (by omega) (by rfl) (pa_cons (pv 0) (pa_cons (pe_callB (klen K rfl) (by rfl) T.b_len bt_len (pa_cons (pv 3) pa_nil)) pa_nil))) pa_nil)))
    (pss_cons (ps_set (i := 8) sc__law_hall.nd rfl (.inl rfl) (C8.pe_c (C__law_talks T) hr (by omega) (by rfl) (pa_cons (pv 0) (pa_cons pe_int (pa_cons (pe_ix (kix_any K rfl) (pe_lst (pa_cons pe_int (pa_cons pe_int (pa_cons pe_int (pa_cons pe_int pa_nil))))) (C8.pe_c (C__law_draw T) hr (by omega) (by rfl) (pa_cons (pv 0) (pa_cons pe_int pa_nil))) (fun _ _ => rfl)) (pa_cons (pv 2) pa_nil))))))
    (pss_cons (ps_set (i := 9) sc__law_hall.nd rfl (.inl rfl) (C8.pe_c (C__law_talks T) hr (by omega) (by rfl) (pa_cons (pv 0) (pa_cons pe_int (pa_cons (pe_ix (kix_any K rfl) (pe_lst (pa_cons pe_int (pa_cons pe_int (pa_cons pe_int pa_nil)))) (C8.pe_c (C__law_draw T) hr (by omega) (by rfl) (pa_cons (pv 0) (pa_cons pe_int pa_nil))) (fun _ _ => rfl)) (pa_cons (pv 2) pa_nil))))))
    (pss_one (ps_expr (kbm K rfl PySem.F.plainAttrs_list PySem.F.slot_list_append PySem.F.type_list_append mt_append (pv 5) (pa_cons (pe_tup (pa_cons (pv 7) (pa_cons (pe_op op_add pe_int (C8.pe_c (C__law_draw T) hr (by omega) (by rfl) (pa_cons (pv 0) (pa_cons (pv 4) pa_nil)))) (pa_cons (pv 8) (pa_cons (pv 9) pa_nil))))) pa_nil))))))))
    (pss_one (ps_ret (pv 5))))))), ?_⟩
    have stay : ∀ {Hc Hd : Hp} {p : Addr} {o : HO} {b : Nat}, SpringAt Hc a b → Hc p = some o → p ≠ a → ExM [a] Hc Hd → Hd p = some o := fun _ h1 h2 e => e _ _ (fun z => h2 (List.mem_singleton.mp z)) h1
    -- names
    refine ⟨by show 10 ≤ sizeLine; decide, fun nm nnm => ?_⟩
    have nma : nm ≠ a := fun z => na sp nnm (by rw [z]; exact List.mem_cons_self)
    have t1 := t0.cell (o := .lst (poolA.map V.str)) nnm
    have sp1 := SpringAt.upd (o := .lst (poolA.map V.str)) sp (na sp nnm)
    have h1 : (upd H nm (.lst (poolA.map V.str))) nm = some (.lst (poolA.map V.str)) := upd_same
    -- ranks
    refine ⟨by show 3 ≤ sizeLine; decide, fun p np => ⟨_, rfl, use_draw (b + 1990) ((SpringAt.upd sp1 (na sp1 np)).less (by omega)) (by decide) (top_small (by decide)) fun j H2 e2 sp2 j0 j1 => ?_⟩⟩
    obtain ⟨rk, hrk, hat⟩ := at_ints [1, 3, 10] j j0 j1
    have npm : p ≠ nm := fun z => by rw [z] at np; exact neSome h1 np
    have t2 := (t1.lay (o := .lst ([1, 3, 10].map V.int)) np (fun l hl => by rw [List.mem_singleton.mp hl]; exact neSome h1)).step (fun l hl => by rw [List.mem_singleton.mp hl, upd_ne npm.symm]; exact neSome h1) e2 (hMa sp2)
    have h2 : H2 nm = some (.lst (poolA.map V.str)) := e2 _ _ (fun z => nma (List.mem_singleton.mp z)) (by rw [upd_ne npm.symm]; exact h1)
    refine ⟨p, _, j, _, rfl, rfl, Sq.l (e2 _ _ (na sp1 np) upd_same), hat, ?_⟩
    -- found
    refine ⟨Nat.zero_le _, fun fd nfd => ?_⟩
    have fda : fd ≠ a := fun z => na sp2 nfd (by rw [z]; exact List.mem_cons_self)
    have fdm : fd ≠ nm := fun z => by rw [z] at nfd; exact neSome h2 nfd
    have t3 := t2.cell (o := .lst []) nfd
    have sp3 := SpringAt.upd (o := .lst []) sp2 (na sp2 nfd)
    have h3 : (upd H2 fd (.lst [])) nm = some (.lst (poolA.map V.str)) := by rw [upd_ne fdm.symm]; exact h2
    -- the loop
    refine ⟨_, rfl, _, rfl, _, _, rfl, rfl, use_draw (b + 1980) (sp3.less (by omega)) (by omega) (top_small (by omega)) fun cnt H4 e4 sp4 c0 c1 => ?_⟩
    have hl3 : ∀ l ∈ [fd, nm], (upd H2 fd (.lst [])) l ≠ none := fun l hl => by
      rcases List.mem_cons.mp hl with z | z
      · rw [z, upd_same]; exact fun q => nomatch q
      · rw [List.mem_singleton.mp z]; exact neSome h3
    have t4 := t3.step hl3 e4 (hMa sp4)
    have h4 := stay sp3 h3 nma e4
    have g4 := stay sp3 (show (upd H2 fd (.lst [])) fd = some (.lst []) from upd_same) fda e4
    refine ⟨_, rfl, by omega, by omega, for_range (lo := 0) (n := cnt.toNat) (fun i σ Hc => ∃ (Sc : Hp) (ns : List Str) (xs : List V) (ms : List Tk) (x6 x7 x8 x9 : Option V),
      σ = [some (.ref a), some (.int n), some (.int m), some (.ref nm), some (.int rk), some (.ref fd), x6, x7, x8, x9] ∧ Stm S H [a] [fd, nm] Sc Hc ∧ Hc nm = some (.lst (ns.map V.str)) ∧ Hc fd = some (.lst xs) ∧ SpringAt Hc a (b + 150 * (cnt.toNat - i)) ∧
      PySem.Paired (TkAt K Sc) xs ms ∧ ms.length = i ∧ (ns ++ ms.map (·.name)).Perm poolA ∧ ∀ t ∈ ms, TkFineIn m t) ?_ ?_ ?_⟩
    · exact ⟨_, poolA, [], [], none, none, none, none, rfl, t4, h4, g4, sp4.less (by omega), .nil, rfl, by rw [List.map_nil, List.append_nil], fun t ht => nomatch ht⟩
    · rintro i σ Hc hi ⟨Sc, ns, xs, ms, x6, x7, x8, x9, rfl, t, hn, hf, sp, hp, hl, pm, fine⟩
      have hlen := pm.length_eq
      rw [List.length_append, List.length_map, hl, show poolA.length = 10 from rfl] at hlen
      have hlv : ∀ l ∈ [fd, nm], Hc l ≠ none := fun l hl => by
        rcases List.mem_cons.mp hl with z | z
        · rw [z]; exact neSome hf
        · rw [List.mem_singleton.mp z]; exact neSome hn
      -- names.pop(..)
      refine ⟨_, rfl, .inl ⟨rfl, _, SqL.of hn⟩, _, rfl, _, rfl, nm, _, rfl, Sq.l hn, ?_⟩
      rw [List.length_map]
      refine use_draw (b + 150 * (cnt.toNat - i) - 1) (sp.less (by omega)) (by omega) (top_small (by omega)) fun j H5 e5 sp5 j0 j1 => ?_
      obtain ⟨jn, rfl⟩ : ∃ jn : Nat, j = jn := ⟨j.toNat, by omega⟩
      have t5 := t.step hlv e5 (hMa sp5)
      have hn5 := stay sp hn nma e5
      have hf5 := stay sp hf fda e5
      have hjl : jn < ns.length := by omega
      have hz : ns[jn]? = some ns[jn] := List.getElem?_eq_getElem hjl
      generalize ns[jn] = z at hz
      refine ⟨nm, _, jn, jn, .str z, rfl, rfl, hn5, by omega, by omega, by rw [List.length_map]; exact seqIx hjl, by rw [List.getElem?_map, hz]; rfl, ?_⟩
      have pm2 := erase_perm ns jn z hz
      have t6 := t5.put (l := nm) (o := .lst ((ns.map V.str).eraseIdx jn)) (List.mem_cons_of_mem _ List.mem_cons_self)
      have sp6 := SpringAt.upd (o := .lst ((ns.map V.str).eraseIdx jn)) sp5 (fun q => nma (List.mem_singleton.mp q))
      have hn6 : (upd H5 nm (.lst ((ns.map V.str).eraseIdx jn))) nm = some (.lst ((ns.eraseIdx jn).map V.str)) := by rw [upd_same, map_erase]
      have hf6 : (upd H5 nm (.lst ((ns.map V.str).eraseIdx jn))) fd = some (.lst xs) := by rw [upd_ne fdm]; exact hf5
      generalize upd H5 nm (.lst ((ns.map V.str).eraseIdx jn)) = H6 at t6 sp6 hn6 hf6 ⊢
      have hlo : ∀ {Hx : Hp} {ns' : List V}, Hx nm = some (.lst ns') → Hx fd = some (.lst xs) → ∀ l ∈ [fd, nm], Hx l ≠ none := fun u1 u2 l hl => by
        rcases List.mem_cons.mp hl with z | z
        · rw [z]; exact neSome u2
        · rw [List.mem_singleton.mp z]; exact neSome u1
      generalize hns2 : ns.eraseIdx jn = ns2 at *
      -- a list of counts, a draw, an item
      have pick : ∀ {Sc Hc : Hp} (cs : List Int) (bb : Nat) {σ : St} {Q' : VK}, Stm S H [a] [fd, nm] Sc Hc → Hc nm = some (.lst (ns2.map V.str)) → Hc fd = some (.lst xs) → SpringAt Hc a (bb + 1) → 0 < cs.length → cs.length ≤ 9 →
          (∃ r, σ = some (.ref a) :: r) →
          (∀ (c : Int) Sc' H', c ∈ cs → Stm S H [a] [fd, nm] Sc' H' → H' nm = some (.lst (ns2.map V.str)) → H' fd = some (.lst xs) → SpringAt H' a bb → Ex Sc Sc' → Q' (.int c) H') →
          ∀ p, Hc p = none → tCall sp_draw [] C8.E0 (tCons (tVar 0) (tCons (tC (.int cs.length)) tNil)) σ (upd Hc p (.lst (cs.map V.int))) fun y H2 => rIxA K (.ref p) y H2 Q' := by
        intro Sc Hc cs bb σ Q' t hn hf sp c0 c9 ⟨r, hσ⟩ q p np
        subst hσ
        have npn : p ≠ nm := fun z => by rw [z] at np; exact neSome hn np
        have npf : p ≠ fd := fun z => by rw [z] at np; exact neSome hf np
        refine ⟨_, rfl, use_draw bb (SpringAt.upd sp (na sp np)) (by omega) (top_small (by omega)) fun j H2 e2 sp2 j0 j1 => ?_⟩
        obtain ⟨c, hc, hat⟩ := at_ints cs j j0 j1
        have t2 := t.lay (l := p) (o := .lst (cs.map V.int)) np (hlo hn hf)
        have hn2 : (upd Hc p (.lst (cs.map V.int))) nm = some (.lst (ns2.map V.str)) := by rw [upd_ne npn.symm]; exact hn
        have hf2 : (upd Hc p (.lst (cs.map V.int))) fd = some (.lst xs) := by rw [upd_ne npf.symm]; exact hf
        have sp' := SpringAt.upd (o := .lst (cs.map V.int)) sp (na sp np)
        refine ⟨p, _, j, _, rfl, rfl, Sq.l (e2 _ _ (na sp np) upd_same), hat, q c _ H2 hc (t2.step (hlo hn2 hf2) e2 (hMa sp2)) (stay sp' hn2 nma e2) (stay sp' hf2 fda e2) sp2 ((Ex.new (t.cur.free np)).trans (ext_up t2.cur))⟩
      -- talks
      have talks : ∀ {Sc Hc : Hp} (lo : Nat) (c : Int) (bb : Nat) {Q' : VK}, Stm S H [a] [fd, nm] Sc Hc → Hc nm = some (.lst (ns2.map V.str)) → Hc fd = some (.lst xs) → SpringAt Hc a (bb + 40) → 0 < c → (lo : Int) + c ≤ 9 →
          (∀ v ts Sc' H', Stm S H [a] [fd, nm] Sc' H' → H' nm = some (.lst (ns2.map V.str)) → H' fd = some (.lst xs) → SpringAt H' a bb → Ex Sc Sc' → TalksL K Sc' v ts → (∀ t ∈ ts, TkIn m t) → lo ≤ ts.length → ts.length ≤ 8 → Q' v H') →
          ∃ x : TalksAsk, [V.ref a, V.int lo, V.int c, V.int m] = [V.ref x.a, V.int x.lo, V.int x.more, V.int x.m] ∧ talksPost K x Hc Q' := by
        intro Sc Hc lo c bb Q' t hn hf sp c0 c9 q
        obtain ⟨cn, rfl⟩ : ∃ cn : Nat, c = cn := ⟨c.toNat, by omega⟩
        exact use_talks bb t.cur (t.oth a List.mem_cons_self).1 sp (by omega) (by omega) l0 l1 fun v ts H' e sp' ht hi h1 h2 => q v ts _ H' (t.step (hlo hn hf) e (hMa sp')) (stay sp hn nma e) (stay sp hf fda e) sp' (ext_up t.cur) ht hi h1 h2
      refine ⟨_, rfl, by show 4 ≤ sizeLine; decide, ?_⟩
      refine pick [1, 1, 4, 9] (b + 150 * (cnt.toNat - i) - 10) t6 hn6 hf6 (sp6.less (by omega)) (by decide) (by decide) ⟨_, rfl⟩ fun c1 S7 H7 hc1 t7 hn7 hf7 sp7 u7 => ?_
      have c1b : 0 < c1 ∧ c1 ≤ 9 := by
        rcases List.mem_cons.mp hc1 with z | hc1
        · omega
        rcases List.mem_cons.mp hc1 with z | hc1
        · omega
        rcases List.mem_cons.mp hc1 with z | hc1
        · omega
        have := List.mem_singleton.mp hc1
        omega
      refine ⟨_, rfl, talks 0 c1 (b + 150 * (cnt.toNat - i) - 51) t7 hn7 hf7 (sp7.less (by omega)) c1b.1 (by omega) fun v8 ts8 S8 H8 t8 hn8 hf8 sp8 u8 r8 in8 lo8 hi8 => ?_⟩
      refine ⟨_, rfl, by show 3 ≤ sizeLine; decide, ?_⟩
      refine pick [1, 3, 8] (b + 150 * (cnt.toNat - i) - 55) t8 hn8 hf8 (sp8.less (by omega)) (by decide) (by decide) ⟨_, rfl⟩ fun c2 S9 H9 hc2 t9 hn9 hf9 sp9 u9 => ?_
      have c2b : 0 < c2 ∧ c2 ≤ 8 := by
        rcases List.mem_cons.mp hc2 with z | hc2
        · omega
        rcases List.mem_cons.mp hc2 with z | hc2
        · omega
        have := List.mem_singleton.mp hc2
        omega
      refine ⟨_, rfl, talks 1 c2 (b + 150 * (cnt.toNat - i) - 96) t9 hn9 hf9 (sp9.less (by omega)) c2b.1 (by omega) fun v10 ts10 S10 H10 t10 hn10 hf10 sp10 u10 r10 in10 lo10 hi10 => ?_⟩
      -- found.append(..)
      have rkb : 0 < rk ∧ rk ≤ 10 := by
        rcases List.mem_cons.mp hrk with z | hrk
        · omega
        rcases List.mem_cons.mp hrk with z | hrk
        · omega
        have := List.mem_singleton.mp hrk
        omega
      refine ⟨_, rfl, .inl ⟨rfl, _, SqL.of hf10⟩, _, rfl, _, rfl, _, rfl, use_draw (b + 150 * (cnt.toNat - i) - 97) (sp10.less (by omega)) rkb.1 (top_small (by omega)) fun d H11 e11 sp11 d0 d1 => ?_⟩
      have t11 := t10.step (hlo hn10 hf10) e11 (hMa sp11)
      have hn11 := stay sp10 hn10 nma e11
      have hf11 := stay sp10 hf10 fda e11
      refine ⟨_, _, rfl, rfl, _, rfl, _, rfl, by show 4 ≤ sizeLine; decide, fun q nq => ?_⟩
      have t12 := t11.lay (o := .tup [.str z, .int (1 + d), v8, v10]) nq (hlo hn11 hf11)
      have sp12 := SpringAt.upd (o := .tup [.str z, .int (1 + d), v8, v10]) sp11 (na sp11 nq)
      have nqn : q ≠ nm := fun z => by rw [z] at nq; exact neSome hn11 nq
      have nqf : q ≠ fd := fun z => by rw [z] at nq; exact neSome hf11 nq
      have hxs := Paired.len hp
      refine ⟨fd, xs, _, rfl, rfl, by rw [upd_ne nqf.symm]; exact hf11, by unfold sizeLine; omega, ?_⟩
      have t13 := t12.put (l := fd) (o := .lst (xs ++ [.ref q])) List.mem_cons_self
      have u12 : Ex Sc (upd (ext S10 H10 H11) q (.tup [.str z, .int (1 + d), v8, v10])) := ((((((ext_up t.cur).trans u7).trans u8).trans u9).trans u10).trans (ext_up t10.cur)).trans (Ex.new (t11.cur.free nq))
      have u8' : Ex S8 (upd (ext S10 H10 H11) q (.tup [.str z, .int (1 + d), v8, v10])) := ((u9.trans u10).trans (ext_up t10.cur)).trans (Ex.new (t11.cur.free nq))
      have u10' : Ex S10 (upd (ext S10 H10 H11) q (.tup [.str z, .int (1 + d), v8, v10])) := (ext_up t10.cur).trans (Ex.new (t11.cur.free nq))
      refine ⟨_, ns2, xs ++ [.ref q], ms ++ [⟨z, 1 + d, ⟨ts8, ts10⟩⟩], _, _, _, _, rfl, t13, by rw [upd_ne fdm.symm, upd_ne nqn.symm]; exact hn11, upd_same, (SpringAt.upd sp12 (fun q => fda (List.mem_singleton.mp q))).less (by omega), ?_, by rw [List.length_append, hl]; rfl, ?_, ?_⟩
      · refine PySem.Paired.snoc (Paired.imp hp fun y u h => h.ex u12) ⟨q, v8, v10, rfl, Sq.t upd_same, (r8.ex u8').any, (r10.ex u10').any⟩
      · rw [List.map_append, ← List.append_assoc]
        refine List.Perm.trans ?_ pm
        refine (List.perm_append_comm (l₁ := ns2 ++ ms.map (·.name)) (l₂ := [z])).trans ?_
        show (z :: (ns2 ++ ms.map (·.name))).Perm _
        rw [← List.cons_append]
        exact pm2.append_right _
      · intro u hu
        rcases List.mem_append.mp hu with hu | hu
        · exact fine u hu
        · have hmem : z ∈ poolA := pm.mem_iff.mp (List.mem_append_left _ (List.mem_of_getElem? hz))
          rw [List.mem_singleton.mp hu]
          exact ⟨⟨poolA_ok z hmem, by show 1 ≤ 1 + d; omega, by show 1 + d ≤ 10; omega, ⟨fun q => by rw [show ts10 = [] from q] at lo10; simp at lo10, hi8, hi10, fun t ht => (in8 t ht).ok l1, fun t ht => (in10 t ht).ok l1⟩⟩, in8, in10⟩
    · rintro σ Hc ⟨Sc, ns, xs, ms, x6, x7, x8, x9, rfl, t, hn, hf, sp, hp, hl, pm, fine⟩
      have nd : (ms.map (·.name)).Nodup := ((List.nodup_append.mp (pm.nodup_iff.mpr poolA_nd)).2.1)
      have t7 := t.freeze (l := fd) hf (fun z => fdm (List.mem_singleton.mp z))
      have up := t7.fin hS
      refine ⟨_, rfl, k _ ms Hc t.keep (sp.less (by omega)) ⟨fd, xs, rfl, SqL.of (up _ _ upd_same), Paired.imp hp fun y u q => q.ex ((Ex.new (t.loc fd List.mem_cons_self).1).trans up)⟩ ⟨fun u hu => (fine u hu).fine, by omega, nd⟩ (by omega) fine⟩
end
end HR
namespace HR
open PySem L2
section
variable {P : Program} {w : World} {K : PySem.W.Frag} {mg : Str → Option Value} {base : Heap} {C : String → Addr}
theorem ext_on {M : List Addr} {S H H2 H3 : Hp} (e : ExM M H2 H3) (hM : ∀ l ∈ M, H l ≠ none) : Ex (ext S H H2) (ext S H H3) := fun x o q => by
  by_cases z : H x = none
  · rw [ext_new z] at q ⊢
    exact e x o (fun m => hM x m z) q
  · rw [show ext S H H2 x = S x from if_neg z] at q
    rw [show ext S H H3 x = S x from if_neg z]
    exact q
theorem TrAll.get : ∀ {xs : List V} {ts : List Tr} {i : Nat} {x : V} {H : Hp}, TrAll K H xs ts → xs[i]? = some x → ∃ t, ts[i]? = some t ∧ TrAt K H x t
  | [], _, _, _, _, _, h => by simp at h
  | v :: vs, _, 0, _, _, h, e => by
    cases h with
    | cons q r => simp only [List.getElem?_cons_zero, Option.some.injEq] at e; subst e; exact ⟨_, rfl, q⟩
  | v :: vs, _, i + 1, _, _, h, e => by
    cases h with
    | cons q r => simp only [List.getElem?_cons_succ] at e; exact TrAll.get (ts := _) (i := i) r e
theorem TrAll.of_get : ∀ {ys : List V} {ts : List Tr} {H : Hp}, ys.length = ts.length → (∀ (i : Nat) (y : V), ys[i]? = some y → ∃ t, ts[i]? = some t ∧ TrAt K H y t) → TrAll K H ys ts
  | [], [], _, _, _ => .nil
  | y :: ys, t :: ts, _, hl, h => by
    obtain ⟨t', e, q⟩ := h 0 y rfl
    simp only [List.getElem?_cons_zero, Option.some.injEq] at e
    subst e
    exact .cons q (TrAll.of_get (by simpa using hl) fun i z hz => h (i + 1) z (by simpa using hz))
theorem TrAll.length : ∀ {ys : List V} {ts : List Tr} {H : Hp}, TrAll K H ys ts → ys.length = ts.length
  | [], _, _, h => by cases h; rfl
  | y :: ys, _, _, h => by
    cases h with
    | cons q r => simp [TrAll.length r]
theorem Tr.len_size : ∀ (ts : List Tr), ts.length ≤ Tr.sizeAll ts
  | [] => Nat.le_refl _
  | t :: ts => by
    have := Tr.len_size ts
    have : 1 ≤ t.size := by cases t <;> simp [Tr.size]
    simp only [List.length_cons, Tr.sizeAll]; omega
theorem Tr.size_dropLe : ∀ (ts : List Tr) (i : Nat), Tr.sizeAll (ts.drop i) ≤ Tr.sizeAll ts
  | [], i => by simp
  | t :: ts, 0 => Nat.le_refl _
  | t :: ts, i + 1 => by
    have := Tr.size_dropLe ts i
    simp only [List.drop_succ_cons, Tr.sizeAll]; omega
theorem dressed_at (T : Txt K mg C) : ∀ d, C8.Cal P w K mg base (d + 1) "_law_dressed" (sp_dressed K d) []
  | 0 => cal_of T.f__law_dressed sc__law_dressed (fun _ => rfl) fun f cdv A outer s H x Q E hr h => absurd h.1 (Nat.not_lt_zero _)
  | d + 1 => cal_of T.f__law_dressed sc__law_dressed (fun _ => rfl) fun f cdv A outer s H x Q E hr h => by
    have ih := dressed_at T d
    obtain ⟨a, v, t, b, S⟩ := x
    dsimp only [dressPost] at h ⊢
    obtain ⟨hd, hz, hS, nS, sp, ht, k⟩ := h
    refine ⟨_, (pss_cons (ps_if (pt_not (pt_val (pe_callB (kisiT K rfl) (by rfl) T.b_isinstance bt_isinstance (pa_cons (pv 1) (pa_cons (pe_tup (pa_cons (pe_bltn (v := .ty "list") (by rfl) T.b_list bt_list rfl) (pa_cons (pe_bltn (v := .ty "tuple") (by rfl) T.b_tuple bt_tuple rfl) pa_nil))) pa_nil))))) (pss_one (ps_ret (pv 1))) pss_nil)
    (pss_cons (ps_setLc (i := 2) (own := [("_law_part", 3)]) rfl sc__law_dressed.nd rfl rfl (sw_true rfl rfl rfl (by decide +kernel)) (kpi_any K rfl (pv 1)) (blkOk_by (own := [("_law_part", 3)]) (N := N__law_dressed) (sc := C8.fnScope s__law_dressed) (by decide +kernel)) (fun _ _ _ _ _ => (pg_name (i := 3) sc__law_dressed.nd rfl (.inl rfl))) (fun _ _ _ _ _ => pts_nil) (fun _ _ _ _ _ => (C8.pe_c ih hr (by omega) (by rfl) (pa_cons (pv 0) (pa_cons (pv 3) pa_nil)))))
    (pss_one (ps_ret (pe_ifExp (pt_cmpR op_eq (C8.pe_c (C__law_draw T) hr (by omega) (by rfl) (pa_cons (pv 0) (pa_cons pe_int pa_nil))) pe_int (nomark _)) (pv 2) (pe_callTy (ktup K rfl) (by rfl) T.b_tuple bt_tuple (pa_cons (pv 2) pa_nil))))))), ?_⟩
    have e01 : ∀ {p : Addr} {o : HO}, H p = none → Ex H (upd H p o) := fun np => Ex.new np
    cases ht with
    | int i =>
      refine ⟨_, rfl, by decide, fun p np => ⟨_, p, _, .type "int", _, false, rfl, upd_same, .cons (.ty _) (.cons (.ty _) .nil), .base (.int _), kit_seq_int, false, rfl, ?_⟩⟩
      refine iteT ?_
      refine ⟨_, rfl, k _ _ (Ex.new np).m (SpringAt.ex (sp.less (by simp [Tr.size])) (Ex.new np)) (.int i)⟩
    | str z =>
      refine ⟨_, rfl, by decide, fun p np => ⟨_, p, _, .type "str", _, false, rfl, upd_same, .cons (.ty _) (.cons (.ty _) .nil), .base (.str _), kit_seq_str, false, rfl, ?_⟩⟩
      refine iteT ?_
      refine ⟨_, rfl, k _ _ (Ex.new np).m (SpringAt.ex (sp.less (by simp [Tr.size])) (Ex.new np)) (.str z)⟩
    | @node D0 xs ts hq hall =>
      obtain ⟨ty, hty, hk⟩ := (hq.ex hS).ty
      have hlen := TrAll.length hall
      have hls := Tr.len_size ts
      simp only [Tr.size, Tr.depth] at hd hz sp
      refine ⟨_, rfl, by decide, fun p np => ⟨_, p, _, ty, _, true, rfl, upd_same, .cons (.ty _) (.cons (.ty _) .nil), TyX.ex (Ex.new np) hty, hk, true, rfl, ?_⟩⟩
      refine iteF (next1 ?_)
      dsimp only [gName]
      have e1 : Ex H (upd H p (.tup [.ty "list", .ty "tuple"])) := Ex.new np
      have sp1 := sp.ex e1
      generalize upd H p (.tup [.ty "list", .ty "tuple"]) = H1 at e1 sp1 ⊢
      have e1S : Ex S H1 := hS.trans e1
      have nD0 : H a ≠ none := SpringAt.ne sp
      have aH : ∀ l ∈ [a], H l ≠ none := fun l hl => by rw [List.mem_singleton.mp hl]; exact nD0
      have body : ∀ {J : It} {G : Hp → Prop}, Walk J xs.length G (YAt xs) → (∀ H', Ex S H' → G H') → ∀ {Q' : VK}, (∀ D ys H', H D = none → ExM [a] H H' → H' D = some (.lst ys) → SpringAt H' a (b + 1) → TrAll K (ext S H H') ys ts → Q' (.ref D) H') →
          LcGoal J (gName 3) tYes (tCall (sp_dressed K d) [] C8.E0 (tCons (tVar 0) (tCons (tVar 3) tNil))) [3] [some (.ref a), some (.ref D0), none, none] H1 Q' := by
        intro J G wk hG Q' fin
        refine lcM wk (S := S) [a] (fun i H' => SpringAt H' a (b + 1 + Tr.sizeAll (ts.drop i))) (fun i y H' => ∃ t, ts[i]? = some t ∧ TrAt K H' y t) e1S (fun l hl => by rw [List.mem_singleton.mp hl]; exact nS)
          (fun i H' h l hl => by rw [List.mem_singleton.mp hl]; exact h.ne) (fun i H' D o hD h => h.upd hD) (fun i y H1 H2 e ⟨t, q, z⟩ => ⟨t, q, TrAt.ex e _ z⟩) (by omega) (sp1.less (by rw [List.drop_zero]; omega)) hG ?_ ?_
        · rintro i x Sc H' H'' hi s1 s2 sM iv ⟨rfl, hx⟩ Ct q
          obtain ⟨t, ht, tr⟩ := TrAll.get hall hx
          have h1 := Tr.size_drop ht
          have h2 := Tr.depth_get ht
          refine ⟨rfl, ?_⟩
          refine ⟨_, rfl, _, rfl, use_dressed (b + 1 + Tr.sizeAll (ts.drop (i + 1))) (by omega) (by have := Tr.size_dropLe ts i; omega) s2 (sM a List.mem_cons_self) (iv.less (by omega)) (TrAt.ex s1 _ tr) fun v H4 e4 sp4 tr4 => ?_⟩
          exact q v H4 e4 sp4 ⟨t, ht, tr4⟩
        · intro D ys H' hD e2 hd iv hl hp
          have hD0 : H D = none := by
            cases z : H D with
            | none => rfl
            | some o => rw [e1 D o z] at hD; cases hD
          refine fin D ys H' hD0 (e1.m.trans e2) hd (iv.less (by omega)) (TrAll.of_get (by omega) fun i y hy => ?_)
          obtain ⟨t, ht, tr⟩ := hp i y hy
          exact ⟨t, ht, TrAt.ex (ext_ch hS e1.m fun l hl => by rw [List.mem_singleton.mp hl]; exact sp1.ne) _ tr⟩
      have tail : ∀ (D : Addr) (ys : List V) (H2 : Hp), H D = none → ExM [a] H H2 → H2 D = some (.lst ys) → SpringAt H2 a (b + 1) → TrAll K (ext S H H2) ys ts →
          tRet (tIf (tTest (tOp rEq (tCall sp_draw [] C8.E0 (tCons (tVar 0) (tCons (tC (.int 2)) tNil))) (tC (.int 0)))) (tVar 2) (tCB (rTupA K) (tCons (tVar 2) tNil))) { nx := fun _ H' => Q .non H', rt := Q } [some (.ref a), some (.ref D0), some (.ref D), none] H2 := by
        intro D ys H2 hD e2 hd2 sp2 tr
        refine ret1 ⟨_, rfl, use_draw b sp2 (by decide) (top_small (by decide)) fun j H3 e3 sp3 j0 j1 => ?_⟩
        have Da : D ≠ a := fun z => nD0 (by rw [← z]; exact hD)
        have hd3 : H3 D = some (.lst ys) := e3 _ _ (fun z => Da (List.mem_singleton.mp z)) hd2
        have tr3 : TrAll K (ext S H H3) ys ts := TrAll.ex (ext_on e3 aH) _ tr
        have fin1 : Q (.ref D) H3 := k _ _ (e2.trans e3) sp3 (.node (Sq.l (by rw [ext_new hD]; exact hd3)) tr3)
        refine ⟨rfl, _, rfl, ?_⟩
        by_cases hj : V.int j = V.int 0
        · rw [decide_eq_true hj]
          refine iteT ⟨_, rfl, fin1⟩
        · rw [decide_eq_false hj]
          refine iteF ⟨_, rfl, D, ys, H3, rfl, Ex.refl _, Sq.l hd3, fun l nl => ?_, fun _ => fin1⟩
          have nl0 : H l = none := by
            cases z : H l with
            | none => rfl
            | some o =>
              by_cases m : l ∈ [a]
              · rw [List.mem_singleton.mp m] at nl; exact absurd nl sp3.ne
              · rw [(e2.trans e3) l o m z] at nl; cases nl
          refine k _ _ ((e2.trans e3).trans (Ex.new nl).m) (sp3.ex (Ex.new nl)) (.node (Sq.t (by rw [ext_new nl0]; exact upd_same)) (TrAll.ex (ext_on (M := []) (Ex.new nl).m (fun l h => nomatch h)) _ tr3))
      refine asg1 ?_
      refine ⟨_, rfl, D0, rfl, ?_⟩
      rcases hq with hq | hq
      · refine .inl ⟨⟨xs, Evl.ex_l e1S hq⟩, ?_⟩
        exact body walk_list (Q' := fun x H2 => gName 2 x [some (.ref a), some (.ref D0), none, none] H2 (tRet (tIf (tTest (tOp rEq (tCall sp_draw [] C8.E0 (tCons (tVar 0) (tCons (tC (.int 2)) tNil))) (tC (.int 0)))) (tVar 2) (tCB (rTupA K) (tCons (tVar 2) tNil))) { nx := fun _ H' => Q .non H', rt := Q })) (fun H' e => Evl.ex_l e hq) fun D ys H2 hD e2 hd2 sp2 tr => tail D ys H2 hD e2 hd2 sp2 tr
      · refine .inr ⟨⟨xs, Evl.ex_t e1S hq⟩, ?_⟩
        exact body walk_tup (Q' := fun x H2 => gName 2 x [some (.ref a), some (.ref D0), none, none] H2 (tRet (tIf (tTest (tOp rEq (tCall sp_draw [] C8.E0 (tCons (tVar 0) (tCons (tC (.int 2)) tNil))) (tC (.int 0)))) (tVar 2) (tCB (rTupA K) (tCons (tVar 2) tNil))) { nx := fun _ H' => Q .non H', rt := Q })) (fun H' e => Evl.ex_t e hq) fun D ys H2 hD e2 hd2 sp2 tr => tail D ys H2 hD e2 hd2 sp2 tr
theorem C__law_dressed (T : Txt K mg C) : C8.Cal P w K mg base 6 "_law_dressed" (sp_dressed K 5) [] := dressed_at T 5
end
end HR
namespace HR
open PySem L2
section
variable {P : Program} {w : World} {K : PySem.W.Frag} {mg : Str → Option Value} {base : Heap} {C : String → Addr}
theorem C__law_nth (T : Txt K mg C) : C8.Cal P w K mg base 1 "_law_nth" (sp_nth K) [] :=
  cal_of T.f__law_nth sc__law_nth (fun _ => rfl) fun f cdv A outer s H x Q E hr h => by
    obtain ⟨v, m, i, S⟩ := x
    dsimp only at h ⊢
    obtain ⟨hS, ⟨a, p, c, rfl, hs, ⟨ap, ps, rfl, hp, pp⟩, ⟨ac, cs, rfl, hc, pc⟩⟩, ok, k⟩ := h
    refine ⟨_, (pss_cons (ps_par (i := 2) (j := 3) (by rfl) sc__law_nth.nd rfl rfl (by decide) rfl rfl (pa_cons (pe_ix (kix_any K rfl) (pv 0) pe_int (fun _ _ => rfl)) (pa_cons (pe_ix (kix_any K rfl) (pv 0) pe_int (fun _ _ => rfl)) pa_nil)) (by rfl))
    (pss_one (ps_ret (pe_ifExp (pt_cmpR op_lt (pv 1) (pe_callB (klen K rfl) (by rfl) T.b_len bt_len (pa_cons (pv 2) pa_nil)) (nomark _)) (pe_ix (kix_any K rfl) (pv 2) (pv 1) (fun _ _ => rfl)) (pe_ix (kix_any K rfl) (pv 3) (pe_op op_mod (pe_op op_sub (pv 1) (pe_callB (klen K rfl) (by rfl) T.b_len bt_len (pa_cons (pv 2) pa_nil))) (pe_callB (klen K rfl) (by rfl) T.b_len bt_len (pa_cons (pv 3) pa_nil))) (fun _ _ => rfl)))))), ?_⟩
    have hlp := Paired.len pp
    have hlc := Paired.len pc
    refine ⟨_, rfl, a, _, 2, _, rfl, rfl, hs.ex hS, rfl, _, rfl, a, _, 3, _, rfl, rfl, hs.ex hS, rfl, _, _, rfl, ?_⟩
    dsimp only
    refine ret1 ⟨_, rfl, _, rfl, ap, _, rfl, hp.ex hS, _, _, rfl, rfl, _, rfl, ?_⟩
    by_cases hi : i < m.sch.pre.length
    · rw [decide_eq_true (by omega : (i : Int) < ps.length)]
      have e : m.sch.nth i = m.sch.pre[i] := by
        unfold Sch.nth
        rw [if_pos hi, List.getD_eq_getElem?_getD, List.getElem?_eq_getElem hi]; rfl
      obtain ⟨x, hx, tx⟩ := Paired.get2 _ pp (List.getElem?_eq_getElem hi)
      refine iteT ⟨_, rfl, _, rfl, ap, ps, i, x, rfl, rfl, hp.ex hS, atI_nat hx, k x H (Ex.refl _) (by rw [e]; exact tx)⟩
    · rw [decide_eq_false (by omega : ¬ (i : Int) < ps.length)]
      have pos := ok.pos
      have hi2 := Nat.mod_lt (i - m.sch.pre.length) pos
      have e : m.sch.nth i = m.sch.cyc[(i - m.sch.pre.length) % m.sch.cyc.length] := by
        unfold Sch.nth
        rw [if_neg hi, List.getD_eq_getElem?_getD, List.getElem?_eq_getElem hi2]; rfl
      obtain ⟨x, hx, tx⟩ := Paired.get2 _ pc (List.getElem?_eq_getElem hi2)
      refine iteF ⟨_, rfl, _, rfl, _, rfl, ap, _, rfl, hp.ex hS, _, _, rfl, rfl, _, rfl, ac, _, rfl, hc.ex hS, _, _, rfl, rfl, (show (0 : Int) < cs.length by omega), ac, cs, _, x, rfl, rfl, hc.ex hS, ?_, k x H (Ex.refl _) (by rw [e]; exact tx)⟩
      rw [show ((i : Int) - ps.length) % cs.length = (((i - m.sch.pre.length) % m.sch.cyc.length : Nat) : Int) by rw [hlp, hlc, Int.natCast_emod, Int.ofNat_sub (by omega)]]
      exact atI_nat hx
end
end HR
namespace HR
open PySem L2
section
variable {P : Program} {w : World} {K : PySem.W.Frag} {mg : Str → Option Value} {base : Heap} {C : String → Addr}
theorem C__law_run (T : Txt K mg C) : C8.Cal P w K mg base 2 "_law_run" (sp_run K) [] :=
  cal_of T.f__law_run sc__law_run (fun _ => rfl) fun f cdv A outer s H x Q E hr h => by
    obtain ⟨v, n, ms, S⟩ := x
    dsimp only [runPost] at h ⊢
    obtain ⟨hS, ⟨a, xs, rfl, hs, hp⟩, ok, hn, k⟩ := h
    have hlen := Paired.len hp
    have h10 := ok.len
    refine ⟨_, (pss_cons (ps_set (i := 2) sc__law_run.nd rfl (.inr rfl) (pe_lc (own := [("_law_talker", 4)]) rfl sc__law_run.nd (kpi_any K rfl (pv 0)) (blkOk_by (own := [("_law_talker", 4)]) (N := N__law_run) (sc := C8.fnScope s__law_run) (by decide +kernel)) (fun _ _ _ _ _ => (pg_name (i := 4) sc__law_run.nd rfl (.inl rfl))) (fun _ _ _ _ _ => pts_nil) (fun _ _ _ _ _ => (pe_lst (pa_cons pe_str (pa_cons pe_int (pa_cons (pe_slice (ksl_any K rfl) (pv 4) (po_some pe_int) (po_some pe_int)) (pa_cons pe_int pa_nil))))))))
    (pss_cons (ps_for PassesOwn.never rfl (kpi_enum K rfl (by rfl) T.b_enumerate (pa_cons (pv 0) pa_nil)) (kpg_tup K rfl (n := 2) (pgs_cons (pg_name (i := 3) sc__law_run.nd rfl (.inl rfl)) (pgs_cons (pg_name (i := 4) sc__law_run.nd rfl (.inl rfl)) pgs_nil))) (pss_one (ps_asg (pe_ix (kix_any K rfl) (C8.pe_c (C__law_nth T) hr (by omega) (by rfl) (pa_cons (pv 4) (pa_cons pe_int pa_nil))) pe_int (fun _ _ => rfl)) (pg_sub (pe_ix (kix_any K rfl) (pv 2) (pv 3) (fun _ _ => rfl)) pe_int set_list))))
    (pss_cons (ps_set (i := 5) sc__law_run.nd rfl (.inl rfl) (pe_lst pa_nil))
    (pss_cons (ps_for PassesOwn.never rfl (pi_range1 (by rfl) T.b_range (pa_cons (pv 1) pa_nil)) (pg_name (i := 6) sc__law_run.nd rfl (.inl rfl)) (pss_cons (ps_set (i := 7) sc__law_run.nd rfl (.inl rfl) (pe_callB (ksortT (d := 3) (B := 16) K rfl (by decide)) (by rfl) T.b_sorted bt_sorted (pa_cons (pe_lc (own := [("_law_k", 3)]) rfl sc__law_run.nd (pi_range1 (by rfl) T.b_range (pa_cons (pe_callB (klen K rfl) (by rfl) T.b_len bt_len (pa_cons (pv 0) pa_nil)) pa_nil)) (blkOk_by (own := [("_law_k", 3)]) (N := N__law_run) (sc := C8.fnScope s__law_run) (by decide +kernel)) (fun _ _ _ _ _ => (pg_name (i := 3) sc__law_run.nd rfl (.inl rfl))) (fun _ _ _ _ _ => (pts_one (pt_cmpR op_eq (pe_ix (kix_any K rfl) (pe_ix (kix_any K rfl) (pv 2) (pv 3) (fun _ _ => rfl)) pe_int (fun _ _ => rfl)) pe_str (nomark _)))) (fun _ _ _ _ _ => (pe_tup (pa_cons (pe_ix (kix_any K rfl) (pe_ix (kix_any K rfl) (pv 0) (pv 3) (fun _ _ => rfl)) pe_int (fun _ _ => rfl)) (pa_cons (pe_callTy call_int1 (by rfl) T.b_int bt_int (pa_cons (pe_cmpR op_eq (pe_ix (kix_any K rfl) (pe_ix (kix_any K rfl) (pv 2) (pv 3) (fun _ _ => rfl)) pe_int (fun _ _ => rfl)) pe_int (nomark _)) pa_nil)) (pa_cons (pv 3) pa_nil)))))) pa_nil)))
    (pss_cons (ps_set (i := 8) sc__law_run.nd rfl (.inl rfl) (pe_ifExp (pt_cmpR (kneD K rfl (hu64 hr)) (pv 7) (pe_lst pa_nil) (nomark _)) (pe_ix (kix_any K rfl) (pe_ix (kix_any K rfl) (pv 7) pe_int (fun _ _ => rfl)) pe_int (fun _ _ => rfl)) pe_non))
    (pss_cons (ps_set (i := 9) sc__law_run.nd rfl (.inl rfl) (pe_lst pa_nil))
    (pss_cons (ps_for PassesOwn.never rfl (kpi_enum K rfl (by rfl) T.b_enumerate (pa_cons (pv 2) pa_nil)) (kpg_tup K rfl (n := 2) (pgs_cons (pg_name (i := 3) sc__law_run.nd rfl (.inl rfl)) (pgs_cons (pg_name (i := 10) sc__law_run.nd rfl (.inl rfl)) pgs_nil))) (pss_one (ps_expr (kbm K rfl PySem.F.plainAttrs_list PySem.F.slot_list_append PySem.F.type_list_append mt_append (pv 9) (pa_cons (pe_tup (pa_cons (pe_ifExp (pt_cmpR op_eq (pv 3) (pv 8) (nomark _)) pe_str (pe_ix (kix_any K rfl) (pv 10) pe_int (fun _ _ => rfl))) (pa_cons (pe_ix (kix_any K rfl) (pv 10) pe_int (fun _ _ => rfl)) (pa_cons (pe_ix (kix_any K rfl) (pv 10) pe_int (fun _ _ => rfl)) pa_nil)))) pa_nil)))))
    (pss_cons (ps_expr (kbm K rfl PySem.F.plainAttrs_list PySem.F.slot_list_append PySem.F.type_list_append mt_append (pv 5) (pa_cons (pe_tup (pa_cons (pe_ifExp (pt_cmpR op_isN (pv 8) pe_non (nomark _)) pe_non (pe_ix (kix_any K rfl) (pe_ix (kix_any K rfl) (pv 0) (pv 8) (fun _ _ => rfl)) pe_int (fun _ _ => rfl))) (pa_cons (pv 9) pa_nil))) pa_nil)))
    (pss_one (ps_for PassesOwn.never rfl (kpi_enum K rfl (by rfl) T.b_enumerate (pa_cons (pe_callTy (klist K rfl) (by rfl) T.b_list bt_list (pa_cons (pv 2) pa_nil)) pa_nil)) (kpg_tup K rfl (n := 2) (pgs_cons (pg_name (i := 3) sc__law_run.nd rfl (.inl rfl)) (pgs_cons (pg_name (i := 10) sc__law_run.nd rfl (.inl rfl)) pgs_nil))) (pss_one (ps_if (pt_cmpR op_eq (pv 3) (pv 8) (nomark _)) (pss_cons (ps_asg (pe_tup (pa_cons (pe_op op_sub (pe_ix (kix_any K rfl) (pv 10) pe_int (fun _ _ => rfl)) pe_int) (pa_cons (pe_op op_add (pe_ix (kix_any K rfl) (pv 10) pe_int (fun _ _ => rfl)) pe_int) pa_nil))) (kpg_tup K rfl (n := 2) (pgs_cons (pg_sub (pv 10) pe_int set_list) (pgs_cons (pg_sub (pv 10) pe_int set_list) pgs_nil))))
    (pss_one (ps_if (pt_cmpR op_eq (pe_ix (kix_any K rfl) (pv 10) pe_int (fun _ _ => rfl)) pe_int (nomark _)) (pss_one (ps_asg (pe_lst (pa_cons pe_str (pa_cons (pe_op op_add (pe_ix (kix_any K rfl) (pv 10) pe_int (fun _ _ => rfl)) pe_int) (pa_cons (pe_ix (kix_any K rfl) (C8.pe_c (C__law_nth T) hr (by omega) (by rfl) (pa_cons (pe_ix (kix_any K rfl) (pv 0) (pv 3) (fun _ _ => rfl)) (pa_cons (pe_op op_add (pe_ix (kix_any K rfl) (pv 10) pe_int (fun _ _ => rfl)) pe_int) pa_nil))) pe_int (fun _ _ => rfl)) (pa_cons pe_int pa_nil))))) (pg_sub (pv 2) (pv 3) set_list))) pss_nil))) (pss_one (ps_if (PW.pt (pw_and (pt_cmpR op_eq (pe_ix (kix_any K rfl) (pv 10) pe_int (fun _ _ => rfl)) pe_str (nomark _)) (pw_and1 (PW.pt (pw_or (pt_cmpR op_isN (pv 8) pe_non (nomark _)) (pw_or1 (pt_cmpR op_gt (pe_ix (kix_any K rfl) (pe_ix (kix_any K rfl) (pv 0) (pv 8) (fun _ _ => rfl)) pe_int (fun _ _ => rfl)) (pe_ix (kix_any K rfl) (pe_ix (kix_any K rfl) (pv 0) (pv 3) (fun _ _ => rfl)) pe_int (fun _ _ => rfl)) (nomark _)))))))) (pss_cons (ps_asg (pe_op op_sub (pe_ix (kix_any K rfl) (pv 10) pe_int (fun _ _ => rfl)) pe_int) (pg_sub (pv 10) pe_int set_list))
    (pss_one (ps_if (pt_cmpR op_eq (pe_ix (kix_any K rfl) (pv 10) pe_int (fun _ _ => rfl)) pe_int (nomark _)) (pss_one (ps_asg (pe_lst (pa_cons pe_str (pa_cons (pe_ix (kix_any K rfl) (pv 10) pe_int (fun _ _ => rfl)) (pa_cons (pe_ix (kix_any K rfl) (C8.pe_c (C__law_nth T) hr (by omega) (by rfl) (pa_cons (pe_ix (kix_any K rfl) (pv 0) (pv 3) (fun _ _ => rfl)) (pa_cons (pe_ix (kix_any K rfl) (pv 10) pe_int (fun _ _ => rfl)) pa_nil))) pe_int (fun _ _ => rfl)) (pa_cons pe_int pa_nil))))) (pg_sub (pv 2) (pv 3) set_list))) pss_nil))) pss_nil))))))))))))
    (pss_one (ps_ret (pv 5))))))), ?_⟩
    -- now
    refine ⟨_, rfl, a, rfl, .inl ⟨⟨xs, Evl.ex_l hS hs⟩, ?_⟩⟩
    intro D hD
    have t0 : Stm S H [] [] S H := Stm.start hS fun l hl => nomatch hl
    refine lc_it walk_list (fun i H' => ∃ Sc as, Stm S H [] (D :: as) Sc H' ∧ H' D = some (.lst (as.map V.ref)) ∧ as.length = i ∧ (∀ (j : Nat) b, as[j]? = some b → ∃ x, H' b = some (.lst [.str "silent", .int 0, x, .int 0])) ∧ (∀ (i j : Nat) b, as[i]? = some b → as[j]? = some b → i = j) ∧ D ∉ as)
      ⟨S, [], t0.cell hD, upd_same, rfl, fun j b h => by simp at h, fun i j b h => by simp at h, by simp⟩ (fun i H' _ ⟨Sc, as, t, _⟩ => Evl.ex_l (t.sub.trans t.cur) hs) ?_ ?_
    · rintro i x H' H'' hi ⟨Sc, as, t, hd, hl, hc, inj, nd⟩ ⟨rfl, hx⟩
      obtain ⟨m, hm, ⟨at_, p, c, rfl, htk, _, _⟩⟩ := Paired.get _ hp hx
      have up := t.sub.trans t.cur
      have hall : ∀ l ∈ D :: as, H'' l ≠ none := fun l hl => by
        rcases List.mem_cons.mp hl with e | hl
        · rw [e, hd]; exact fun q => nomatch q
        · obtain ⟨j, hj⟩ := List.getElem?_of_mem hl
          obtain ⟨x, e⟩ := hc j l hj
          rw [e]; exact fun q => nomatch q
      refine ⟨rfl, ?_⟩
      refine ⟨_, rfl, 2, rfl, 4, rfl, at_, _, rfl, htk.ex up, (by rintro ⟨h1, _⟩; revert h1; show ¬ (HT.sIx 4 0 (some 2) = 0); decide), fun q o nq ho => ?_⟩
      refine ⟨by show 4 ≤ sizeLine; decide, fun p np => ?_⟩
      have nn : ∀ l ∈ D :: as, l ≠ q := fun l hl z => hall l hl (by rw [z]; exact nq)
      have t1 := t.lay (o := o) nq hall
      have hall1 : ∀ l ∈ D :: as, (upd H'' q o) l ≠ none := fun l hl => by rw [upd_ne (nn l hl)]; exact hall l hl
      have np1 : ∀ l ∈ D :: as, l ≠ p := fun l hl z => hall1 l hl (by rw [z]; exact np)
      have pD : p ≠ D := (np1 D List.mem_cons_self).symm
      refine ⟨as.map V.ref, by rw [upd_ne pD.symm, upd_ne (nn D List.mem_cons_self)]; exact hd, by rw [List.length_map]; unfold sizeLine; omega, _, as ++ [p],
        ((t1.cell (o := .lst [.str "silent", .int 0, .ref q, .int 0]) np).put (l := D) (o := .lst (as.map V.ref ++ [V.ref p])) (List.mem_cons_of_mem _ List.mem_cons_self)).drop (L' := D :: (as ++ [p])) (fun l hl => ?_), by rw [upd_same, List.map_append]; rfl, by rw [List.length_append, hl]; rfl, ?_, ?_, ?_⟩
      · rcases List.mem_cons.mp hl with e | hl
        · rw [e]; exact List.mem_cons_of_mem _ List.mem_cons_self
        · rcases List.mem_append.mp hl with hl | hl
          · exact List.mem_cons_of_mem _ (List.mem_cons_of_mem _ hl)
          · rw [List.mem_singleton.mp hl]; exact List.mem_cons_self
      · intro j b hb
        by_cases hj : j < as.length
        · rw [List.getElem?_append_left hj] at hb
          have hm := List.mem_cons_of_mem D (List.mem_of_getElem? hb)
          obtain ⟨x, e⟩ := hc j b hb
          exact ⟨x, by rw [upd_ne (fun z => nd (by rw [← z]; exact List.mem_of_getElem? hb)), upd_ne (np1 b hm), upd_ne (nn b hm)]; exact e⟩
        · rw [List.getElem?_append_right (by omega)] at hb
          have : j - as.length = 0 := by
            have := (List.getElem?_eq_some_iff.mp hb).1
            simp at this; omega
          rw [this] at hb
          cases hb
          exact ⟨.ref q, by rw [upd_ne pD, upd_same]⟩
      · intro i1 j1 b h1 h2
        by_cases z1 : i1 < as.length <;> by_cases z2 : j1 < as.length
        · rw [List.getElem?_append_left z1] at h1
          rw [List.getElem?_append_left z2] at h2
          exact inj _ _ _ h1 h2
        · rw [List.getElem?_append_left z1] at h1
          rw [List.getElem?_append_right (by omega)] at h2
          have := List.mem_singleton.mp (List.mem_of_getElem? h2)
          exact absurd this (np1 b (List.mem_cons_of_mem _ (List.mem_of_getElem? h1)))
        · rw [List.getElem?_append_left z2] at h2
          rw [List.getElem?_append_right (by omega)] at h1
          have := List.mem_singleton.mp (List.mem_of_getElem? h1)
          exact absurd this (np1 b (List.mem_cons_of_mem _ (List.mem_of_getElem? h2)))
        · have a1 := (List.getElem?_eq_some_iff.mp h1).1
          have a2 := (List.getElem?_eq_some_iff.mp h2).1
          simp at a1 a2
          omega
      · intro z
        rcases List.mem_append.mp z with z | z
        · exact nd z
        · exact pD (List.mem_singleton.mp z).symm
    · rintro H1 ⟨Sc1, as, t1, hd, hl, hc, inj, nd⟩
      have now0 : ∃ g : Nat → V, NowAt H1 D as ms (fun j m => [.str "silent", .int 0, g j, .int 0]) := by
        have : ∀ j : Nat, ∃ x, ∀ b, as[j]? = some b → H1 b = some (.lst [.str "silent", .int 0, x, .int 0]) := fun j => by
          cases e : as[j]? with
          | none => exact ⟨.non, fun b h => nomatch h⟩
          | some b =>
            obtain ⟨x, hx⟩ := hc j b e
            exact ⟨x, fun b' h => by cases h; exact hx⟩
        obtain ⟨g, hg⟩ := Classical.skolem.mp this
        exact ⟨g, hd, by omega, fun j m b _ h => hg j b h, inj, nd⟩
      obtain ⟨g, now0⟩ := now0
      clear hc hd inj nd hl
      dsimp only
      -- the first talks
      refine ⟨_, rfl, a, xs, rfl, Evl.ex_l (t1.sub.trans t1.cur) hs, forE (xs := xs) (fun i σ Hc => ∃ (Sc : Hp) (x3 x4 : Option V), σ = [some (.ref a), some (.int n), some (.ref D), x3, x4, none, none, none, none, none, none] ∧ Stm S H [] (D :: as) Sc Hc ∧
        NowAt Hc D as ms (fun j m => if j < i then rowV m (cel ms 0 j m) else [.str "silent", .int 0, g j, .int 0])) ?_ ?_ ?_ ?_⟩
      · exact ⟨Sc1, _, _, rfl, t1, now0⟩
      · rintro i σ Hc hi ⟨Sc, x3, x4, rfl, t, now⟩
        exact Evl.ex_l (t.sub.trans t.cur) hs
      · rintro i x σ Hc T2 hx ⟨Sc, x3, x4, rfl, t, now⟩ nT
        obtain ⟨m, hm, tk⟩ := Paired.get _ hp hx
        have up := t.sub.trans t.cur
        have t2 := t.stepE now.all (Ex.new (o := .tup [.int (i : Nat), x]) nT)
        have now2 := now.ex (Ex.new (o := .tup [.int (i : Nat), x]) nT)
        generalize upd Hc T2 (.tup [.int (i : Nat), x]) = H2 at t2 now2 ⊢
        obtain ⟨b, hb, cb⟩ := now2.at_ hm
        rw [if_neg (Nat.lt_irrefl i)] at cb
        have okm := ok.ok m (List.mem_of_getElem? hm)
        refine ⟨_, rfl, use_nth (i := 0) (t2.sub.trans t2.cur) tk okm fun w H3 e3 tw => ?_⟩
        have t3 := t2.stepE now2.all e3
        have now3 := now2.ex e3
        obtain ⟨wa, rfl, sw⟩ := tw
        refine ⟨wa, _, 0, _, rfl, rfl, sw.ex (t3.sub.trans t3.cur), rfl, ?_⟩
        refine ⟨_, rfl, _, rfl, D, _, i, .ref b, rfl, rfl, Sq.l now3.lst, atI_nat (by rw [List.getElem?_map, hb]; rfl), ?_⟩
        refine ⟨b, _, 2, 2, rfl, rfl, e3 _ _ cb, rfl, ?_⟩
        refine ⟨_, _, _, rfl, t3.put (l := b) (List.mem_cons_of_mem _ (List.mem_of_getElem? hb)), (now3.put hb _).congr fun j u hu => ?_⟩
        by_cases e : j = i
        · subst e
          rw [hm] at hu; cases hu
          rw [if_pos rfl, if_pos (Nat.lt_succ_self _), cel_zero ok.ok hm]
          have := (Sch.nth_ok okm 0).1
          unfold rowV stW lfW
          rw [if_pos (show 0 < (m.sch.nth 0).1 by omega), if_pos (show 0 < (m.sch.nth 0).1 by omega)]
          rfl
        · rw [if_neg e]
          by_cases z : j < i
          · rw [if_pos z, if_pos (Nat.lt_succ_of_lt z)]
          · rw [if_neg z, if_neg (show ¬ j < i + 1 by omega)]
      · rintro σ H4 ⟨Sc4, x3, x4, rfl, t4, now4'⟩
        have now4 : NowAt H4 D as ms (fun j m => rowV m (cel ms ((0 : Nat) : Int) j m)) := now4'.congr fun j m hm => by
          rw [if_pos (by rw [hlen]; exact (List.getElem?_eq_some_iff.mp hm).1)]; rfl
        clear now4' now0 t1
        dsimp only
        refine ⟨Nat.zero_le _, fun fd nfd => ?_⟩
        have fdn : fd ∉ D :: as := fun z => now4.all fd z nfd
        have t5 := t4.cell (o := .lst []) nfd
        have now5 := now4.other (o := .lst []) fdn
        have f5 : (upd H4 fd (.lst [])) fd = some (.lst []) := upd_same
        generalize upd H4 fd (.lst []) = H5 at t5 now5 f5 ⊢
        dsimp only [gName]
        refine ⟨_, rfl, _, rfl, by omega, by omega, for_range (lo := 0) (n := (n : Int).toNat) (fun i σ Hc => ∃ (Sc : Hp) (as : List Addr) (rows : List V) (x3 x4 x6 x7 x8 x9 x10 : Option V), σ = [some (.ref a), some (.int n), some (.ref D), x3, x4, some (.ref fd), x6, x7, x8, x9, x10] ∧ Stm S H [] (fd :: D :: as) Sc Hc ∧
          NowAt Hc D as ms (fun j m => rowV m (cel ms ((i : Nat) : Int) j m)) ∧ fd ∉ D :: as ∧ Hc fd = some (.lst rows) ∧ rows.length = i ∧ ∀ (u : Nat) y, rows[u]? = some y → RowAt K Sc ms u y) ?_ ?_ ?_⟩
        · exact ⟨Sc4, as, [], _, _, _, _, _, _, _, rfl, t5, now5, fdn, f5, rfl, fun u y h => by simp at h⟩
        · clear f5 now5 t5 fdn nfd now4 t4 
          rintro tick σ Hc htick ⟨Sc0, as, rows, x3, x4, x6, x7, x8, x9, x10, rfl, t, now, fdn, hf, hrl, hrow⟩
          have up := t.sub.trans t.cur
          refine ⟨_, rfl, a, _, rfl, .inl (Evl.ex_l up hs), _, rfl, by omega, by omega, fun OL nOL => ?_⟩
          rw [show ((xs.length : Int)).toNat = ms.length by omega]
          have allF : ∀ {Hx : Hp} {as : List Addr} {f : Nat → Tk → List V} {rows : List V}, NowAt Hx D as ms f → Hx fd = some (.lst rows) → ∀ l ∈ fd :: D :: as, Hx l ≠ none := fun h1 h2 l hl => by
            rcases List.mem_cons.mp hl with e | hl
            · rw [e, h2]; exact fun q => nomatch q
            · exact h1.all l hl
          have nOLn : OL ∉ fd :: D :: as := fun z => allF now hf OL z nOL
          refine lc_it (walk_range (lo := 0) (n := ms.length)) (fun j H' => ∃ Sc0' os, Stm S H [] (OL :: fd :: D :: as) Sc0' H' ∧ Ex Sc0 Sc0' ∧ NowAt H' D as ms (fun j m => rowV m (cel ms ((tick : Nat) : Int) j m)) ∧ H' fd = some (.lst rows) ∧ H' OL = some (.lst os) ∧ ReadyTo Sc0' ms (cel ms ((tick : Nat) : Int)) j os)
            ⟨Sc0, [], t.cell nOL, Ex.refl _, now.other (fun z => nOLn (List.mem_cons_of_mem _ z)), by rw [upd_ne (fun z => nOLn (by rw [← z]; exact List.mem_cons_self))]; exact hf, upd_same, ⟨(fun x h => nomatch h), fun j m h => by omega, Nat.le_refl _⟩⟩ (fun i H' _ _ => trivial) ?_ ?_
          · rintro j x H1 H1' hj ⟨Sc0', os, t1, u1, now1, hf1, ho1, rd⟩ ⟨rfl, rfl⟩
            refine ⟨rfl, ?_⟩
            have hms : ms[j]? = some ms[j] := List.getElem?_eq_getElem hj
            generalize ms[j] = m at hms
            obtain ⟨b, hb, cb⟩ := now1.at_ hms
            have hbm : (as.map V.ref)[j]? = some (.ref b) := by rw [List.getElem?_map, hb]; rfl
            dsimp only
            simp only [Int.zero_add]
            refine ⟨_, rfl, _, rfl, D, _, j, .ref b, rfl, rfl, Sq.l now1.lst, atI_nat hbm, b, _, 0, _, rfl, rfl, Sq.l cb, rfl, rfl, _, rfl, ?_⟩
            rcases cel_shape ok.ok (T := ((tick : Nat) : Int)) hms with ⟨c0, s0⟩ | ⟨c0, s0⟩
            · have hst : stW (cel ms ((tick : Nat) : Int) j m) = "ready" := if_neg (by omega)
              rw [hst]
              rw [show decide (V.str (Str.ofString "ready") = V.str (Str.ofString "ready")) = true from decide_eq_true rfl, if_pos rfl]
              obtain ⟨x, hx, ta, p1, p2, rfl, htk, _, _⟩ := Paired.get2 _ hp hms
              have up1 := t1.sub.trans t1.cur
              refine ⟨_, rfl, _, rfl, a, xs, j, _, rfl, rfl, .inl (Evl.ex_l up1 hs), atI_nat hx, ta, _, 1, _, rfl, rfl, htk.ex up1, rfl, ?_⟩
              refine ⟨_, rfl, _, rfl, D, _, j, .ref b, rfl, rfl, Sq.l now1.lst, atI_nat hbm, b, _, 3, _, rfl, rfl, Sq.l cb, rfl, rfl, .inr ⟨_, rfl, _, rfl, by show 3 ≤ sizeLine; decide, fun p np => ?_⟩⟩
              have allO : ∀ l ∈ OL :: fd :: D :: as, H1' l ≠ none := fun l hl => by
                rcases List.mem_cons.mp hl with e | hl
                · rw [e, ho1]; exact fun q => nomatch q
                · exact allF now1 hf1 l hl
              have pn : p ∉ OL :: fd :: D :: as := fun z => allO p z np
              have t2 := t1.lay np allO (o := .tup [.int m.rank, .int (if decide (V.int (cel ms ((tick : Nat) : Int) j m).s = V.int 0) = true then 1 else 0), .int j])
              have u2 : Ex Sc0' (upd Sc0' p (.tup [.int m.rank, .int (if decide (V.int (cel ms ((tick : Nat) : Int) j m).s = V.int 0) = true then 1 else 0), .int j])) := Ex.new (t1.cur.free np)
              have ofd : OL ≠ fd := fun z => nOLn (by rw [z]; exact List.mem_cons_self)
              have ll := rd.l
              refine ⟨os, by rw [upd_ne (fun z => pn (by rw [← z]; exact List.mem_cons_self))]; exact ho1, by unfold sizeLine; omega, _, os ++ [.ref p], t2.put (l := OL) List.mem_cons_self, u1.trans u2, (now1.other (fun z => pn (List.mem_cons_of_mem _ (List.mem_cons_of_mem _ z)))).other (fun z => nOLn (List.mem_cons_of_mem _ z)), ?_, upd_same, rd.add u2 hms c0 ⟨p, rfl, ?_⟩⟩
              · rw [upd_ne ofd.symm, upd_ne (fun z => pn (by rw [← z]; exact List.mem_cons_of_mem _ List.mem_cons_self))]
                exact hf1
              · rw [upd_same]
                have : (if decide (V.int (cel ms ((tick : Nat) : Int) j m).s = V.int 0) = true then (1 : Int) else 0) = flag (cel ms ((tick : Nat) : Int) j m).s := by
                  unfold flag
                  by_cases z : (cel ms ((tick : Nat) : Int) j m).s = 0
                  · rw [z]; rfl
                  · rw [if_neg z, if_neg (by rw [decide_eq_true_eq]; intro q; injection q with q; exact z q)]
                rw [this]
            · have hst : stW (cel ms ((tick : Nat) : Int) j m) = "silent" := if_pos c0
              rw [hst]
              rw [show decide (V.str (Str.ofString "silent") = V.str (Str.ofString "ready")) = false by decide +kernel, if_neg (by decide)]
              exact ⟨Sc0', os, t1, u1, now1, hf1, ho1, rd.skip hms (by omega)⟩
          · rintro H1 ⟨Sc0', os, t1, u1, now1, hf1, ho1, rd⟩
            dsimp only
            have rdl := rd.l
            refine ⟨OL, os, rfl, SqL.of ho1, by omega, fun x hx => ?_, fun ys p pm pw np => ?_⟩
            · obtain ⟨j, m, hm, hc, ht⟩ := rd.a x hx
              exact ⟨_, (ht.ex t1.cur).i, rfl, trip_bd ok hm _⟩
            have allO : ∀ l ∈ OL :: fd :: D :: as, H1 l ≠ none := fun l hl => by
              rcases List.mem_cons.mp hl with e | hl
              · rw [e, ho1]; exact fun q => nomatch q
              · exact allF now1 hf1 l hl
            have pn : p ∉ OL :: fd :: D :: as := fun z => allO p z np
            have t2 := (t1.lay (o := .lst ys) np allO).drop (L' := fd :: D :: as) (fun l hl => List.mem_cons_of_mem _ hl)
            have now2 := now1.other (o := .lst ys) (fun z => pn (List.mem_cons_of_mem _ (List.mem_cons_of_mem _ z)))
            have hf2 : (upd H1 p (.lst ys)) fd = some (.lst rows) := by rw [upd_ne (fun z => pn (by rw [← z]; exact List.mem_cons_of_mem _ List.mem_cons_self))]; exact hf1
            have e2 : Ex H1 (upd H1 p (.lst ys)) := Ex.new np
            have hp2 : (upd H1 p (.lst ys)) p = some (.lst ys) := upd_same
            have u2 : Ex Sc0 (upd Sc0' p (.lst ys)) := u1.trans (Ex.new (t1.cur.free np))
            generalize upd Sc0' p (.lst ys) = Sc2 at t2 u2
            generalize upd H1 p (.lst ys) = H2 at t2 now2 hf2 e2 hp2 ⊢
            dsimp only [gName]
            obtain ⟨b, hb, hv⟩ := best_val (i := 7) (σ := [some (.ref a), some (.int n), some (.ref D), x3, x4, some (.ref fd), some (.int (0 + (tick : Nat))), some (.ref p), x8, x9, x10]) ok rfl hp2 e2 (rd.ex t1.cur).all pm pw
            refine hv _ fun e ne => ?_
            have t3 := t2.stepE (allF now2 hf2) (Ex.new (o := .lst []) ne)
            have now3 := now2.ex (Ex.new (o := .lst []) ne)
            have hf3 := (Ex.new (o := .lst []) ne) _ _ hf2
            have u3 := u2.trans (ext_up (H2 := upd H2 e (.lst [])) t2.cur)
            generalize ext Sc2 H2 (upd H2 e (.lst [])) = Sc3 at t3 u3
            generalize upd H2 e (.lst []) = H3 at t3 now3 hf3 ⊢
            clear hv t2 now2 hf2 hp2 e2 u2 pm pw np pn allO rdl rd ho1 now1 hf1 t1 u1
            refine ⟨Nat.zero_le _, fun st nst => ?_⟩
            -- the states
            have stn : st ∉ fd :: D :: as := fun z => allF now3 hf3 st z nst
            have stf : st ≠ fd := fun z => stn (by rw [z]; exact List.mem_cons_self)
            have t4 := t3.cell (o := .lst []) nst
            have now4 := now3.other (o := .lst []) (fun z => stn (List.mem_cons_of_mem _ z))
            have hf4 : (upd H3 st (.lst [])) fd = some (.lst rows) := by rw [upd_ne stf.symm]; exact hf3
            have hs4 : (upd H3 st (.lst [])) st = some (.lst []) := upd_same
            generalize upd H3 st (.lst []) = H4 at t4 now4 hf4 hs4 ⊢
            clear t3 now3 hf3 nst
            dsimp only [gName]
            refine ⟨_, rfl, D, as.map V.ref, rfl, SqL.of now4.lst, forE (xs := as.map V.ref) (fun i σ Hc => ∃ (Sc : Hp) (ss : List V) (x3 x10 : Option V), σ = [some (.ref a), some (.int n), some (.ref D), x3, x4, some (.ref fd), some (.int (0 + (tick : Nat))), some (.ref p), some (bestV b), some (.ref st), x10] ∧ Stm S H [] (st :: fd :: D :: as) Sc Hc ∧ Ex Sc3 Sc ∧
              NowAt Hc D as ms (fun j m => rowV m (cel ms ((tick : Nat) : Int) j m)) ∧ Hc fd = some (.lst rows) ∧ Hc st = some (.lst ss) ∧ ss.length = i ∧ ∀ (j : Nat) m, j < i → ms[j]? = some m → ∃ q, ss[j]? = some (.ref q) ∧ Sc q = some (.tup (stV ms (tick : Nat) b j m (cel ms ((tick : Nat) : Int) j m)))) ?_ ?_ ?_ ?_⟩
            · exact ⟨Sc3, [], x3, x10, rfl, t4, Ex.refl _, now4, hf4, hs4, rfl, fun j m h => by omega⟩
            · rintro i σ Hc hi ⟨Sc, ss, x3, x10, rfl, t, u, now, hf, hss, hsl, hst⟩
              exact SqL.of now.lst
            · rintro i x σ Hc T2 hx ⟨Sc, ss, x3, x10, rfl, t, u, now, hf, hss, hsl, hst⟩ nT
              rw [List.getElem?_map] at hx
              obtain ⟨c, hc, rfl⟩ := Option.map_eq_some_iff.mp hx
              obtain ⟨m, hm, cm⟩ := now.tk hc
              have allS : ∀ {Hx : Hp} {f : Nat → Tk → List V}, NowAt Hx D as ms f → Hx fd = some (.lst rows) → Hx st = some (.lst ss) → ∀ l ∈ st :: fd :: D :: as, Hx l ≠ none := fun h1 h2 h3 l hl => by
                rcases List.mem_cons.mp hl with e | hl
                · rw [e, h3]; exact fun q => nomatch q
                · exact allF h1 h2 l hl
              have eT : Ex Hc (upd Hc T2 (.tup [.int (i : Nat), .ref c])) := Ex.new nT
              have t2 := t.stepE (allS now hf hss) eT
              have u2 := u.trans (ext_up (H2 := upd Hc T2 (.tup [.int (i : Nat), .ref c])) t.cur)
              have st2 : ∀ (j : Nat) m, j < i → ms[j]? = some m → ∃ q, ss[j]? = some (.ref q) ∧ ext Sc Hc (upd Hc T2 (.tup [.int (i : Nat), .ref c])) q = some (.tup (stV ms (tick : Nat) b j m (cel ms ((tick : Nat) : Int) j m))) := fun j m h1 h2 => by
                obtain ⟨q, h3, h4⟩ := hst j m h1 h2
                exact ⟨q, h3, ext_up t.cur _ _ h4⟩
              replace now := now.ex eT
              replace cm := eT _ _ cm
              replace hf := eT _ _ hf
              replace hss := eT _ _ hss
              generalize ext Sc Hc (upd Hc T2 (.tup [.int (i : Nat), .ref c])) = Sc2 at t2 u2 st2
              generalize upd Hc T2 (.tup [.int (i : Nat), .ref c]) = H5 at t2 now cm hf hss ⊢
              have hl : ms.length ≤ 10 := h10
              have hi := (List.getElem?_eq_some_iff.mp hm).1
              refine ⟨_, rfl, .inl ⟨rfl, _, SqL.of hss⟩, _, rfl, _, rfl, scal_best _ b, _, rfl, ?_⟩
              rw [dec_best]
              have go : ∀ p5, H5 p5 = none → rAppend (.ref st) [.ref p5] (upd H5 p5 (.tup (stV ms (tick : Nat) b i m (cel ms ((tick : Nat) : Int) i m)))) fun _ H' => ∃ (Sc : Hp) (ss : List V) (y3 y10 : Option V), [some (V.ref a), some (.int n), some (.ref D), some (.int (i : Nat)), x4, some (.ref fd), some (.int (0 + (tick : Nat))), some (.ref p), some (bestV b), some (.ref st), some (.ref c)] = [some (.ref a), some (.int n), some (.ref D), y3, x4, some (.ref fd), some (.int (0 + (tick : Nat))), some (.ref p), some (bestV b), some (.ref st), y10] ∧ Stm S H [] (st :: fd :: D :: as) Sc H' ∧ Ex Sc3 Sc ∧
                  NowAt H' D as ms (fun j m => rowV m (cel ms ((tick : Nat) : Int) j m)) ∧ H' fd = some (.lst rows) ∧ H' st = some (.lst ss) ∧ ss.length = i + 1 ∧ ∀ (j : Nat) m, j < i + 1 → ms[j]? = some m → ∃ q, ss[j]? = some (.ref q) ∧ Sc q = some (.tup (stV ms (tick : Nat) b j m (cel ms ((tick : Nat) : Int) j m))) := by
                intro p5 np5
                have p5n : p5 ∉ st :: fd :: D :: as := fun z => allS now hf hss p5 z np5
                have t6 := t2.lay (o := .tup (stV ms (tick : Nat) b i m (cel ms ((tick : Nat) : Int) i m))) np5 (allS now hf hss)
                refine ⟨st, ss, _, rfl, rfl, by rw [upd_ne (fun z => p5n (by rw [← z]; exact List.mem_cons_self))]; exact hss, by unfold sizeLine; omega, ?_⟩
                refine ⟨_, ss ++ [.ref p5], _, _, rfl, t6.put (l := st) List.mem_cons_self, u2.trans (Ex.new (t2.cur.free np5)), (now.other (fun z => p5n (List.mem_cons_of_mem _ (List.mem_cons_of_mem _ z)))).other (fun z => stn (List.mem_cons_of_mem _ z)), ?_, upd_same, by rw [List.length_append, hsl]; rfl, fun j u h1 h2 => ?_⟩
                · rw [upd_ne stf.symm, upd_ne (fun z => p5n (by rw [← z]; exact List.mem_cons_of_mem _ List.mem_cons_self))]; exact hf
                · by_cases z : j < i
                  · obtain ⟨q, h3, h4⟩ := st2 j u z h2
                    exact ⟨q, by rw [List.getElem?_append_left (by omega)]; exact h3, Ex.new (t2.cur.free np5) _ _ h4⟩
                  · have : j = i := by omega
                    subst this
                    rw [hm] at h2; cases h2
                    exact ⟨p5, by rw [List.getElem?_append_right (by omega), hsl, Nat.sub_self]; rfl, upd_same⟩
              by_cases hbi : b = some i
              · rw [decide_eq_true hbi]
                refine iteT ?_
                refine ⟨_, rfl, c, _, 1, _, rfl, rfl, Sq.l cm, rfl, _, rfl, c, _, 2, _, rfl, rfl, Sq.l cm, rfl, by show 3 ≤ sizeLine; decide, fun p5 np5 => ?_⟩
                have := go p5 np5
                rw [show stV ms (tick : Nat) b i m (cel ms ((tick : Nat) : Int) i m) = [.str "speaking", .int (cel ms ((tick : Nat) : Int) i m).k, .int (lfW m (cel ms ((tick : Nat) : Int) i m))] by unfold stV; rw [if_pos hbi]] at this
                exact this
              · rw [decide_eq_false hbi]
                refine iteF ?_
                refine ⟨_, rfl, c, _, 0, _, rfl, rfl, Sq.l cm, rfl, _, rfl, c, _, 1, _, rfl, rfl, Sq.l cm, rfl, _, rfl, c, _, 2, _, rfl, rfl, Sq.l cm, rfl, by show 3 ≤ sizeLine; decide, fun p5 np5 => ?_⟩
                have := go p5 np5
                rw [show stV ms (tick : Nat) b i m (cel ms ((tick : Nat) : Int) i m) = [.str (stW (cel ms ((tick : Nat) : Int) i m)), .int (cel ms ((tick : Nat) : Int) i m).k, .int (lfW m (cel ms ((tick : Nat) : Int) i m))] by unfold stV; rw [if_neg hbi]] at this
                exact this
            · rintro σ Hc ⟨Sc, ss, x3', x10', rfl, t, u, now, hf, hss, hsl, hst⟩
              dsimp only
              clear hf4 hs4 now4 t4
              have up5 := t.sub.trans t.cur
              refine ⟨_, rfl, .inl ⟨rfl, _, SqL.of hf⟩, name_val (i0 := 0) (i8 := 8) rfl rfl (Evl.ex_l up5 hs) hp up5 hb _ ⟨_, rfl, by show 2 ≤ sizeLine; decide, fun p6 np6 => ?_⟩⟩
              have t6 := t.freeze hss stn
              have row6 : StatesAt K (upd Sc st (.lst ss)) st ms (tick : Nat) b (cel ms ((tick : Nat) : Int)) := by
                rw [List.length_map, now.len] at hsl
                refine ⟨ss, SqL.of upd_same, hsl, fun j m hm => ?_⟩
                obtain ⟨q, h1, h2⟩ := hst j m (by rw [List.length_map, now.len]; exact (List.getElem?_eq_some_iff.mp hm).1) hm
                exact ⟨q, h1, SqT.of (Ex.new (t.loc st List.mem_cons_self).1 _ _ h2)⟩
              have p6n : p6 ∉ fd :: D :: as := fun z => allF now hf p6 z np6
              have t7 := t6.lay (o := .tup [nmV ms b, .ref st]) np6 (allF now hf)
              have now7 := now.other (o := .tup [nmV ms b, .ref st]) (fun z => p6n (List.mem_cons_of_mem _ z))
              have hf7 : (upd Hc p6 (.tup [nmV ms b, .ref st])) fd = some (.lst rows) := by rw [upd_ne (fun z => p6n (by rw [← z]; exact List.mem_cons_self))]; exact hf
              have row7 : RowAt K (upd (upd Sc st (.lst ss)) p6 (.tup [nmV ms b, .ref st])) ms (tick : Nat) (.ref p6) := ⟨p6, st, b, rfl, SqT.of upd_same, hb, row6.ex (Ex.new (t6.cur.free np6))⟩
              have u7 : Ex Sc0 (upd (upd Sc st (.lst ss)) p6 (.tup [nmV ms b, .ref st])) := ((u3.trans u).trans (Ex.new (t.loc st List.mem_cons_self).1)).trans (Ex.new (t6.cur.free np6))
              refine ⟨fd, rows, _, rfl, rfl, hf7, by unfold sizeLine; omega, ?_⟩
              have t8 := t7.put (l := fd) (o := .lst (rows ++ [.ref p6])) List.mem_cons_self
              have now8 := now7.other (o := .lst (rows ++ [.ref p6])) fdn
              have hf8 : (upd (upd Hc p6 (.tup [nmV ms b, .ref st])) fd (.lst (rows ++ [.ref p6]))) fd = some (.lst (rows ++ [.ref p6])) := upd_same
              generalize upd (upd Hc p6 (.tup [nmV ms b, .ref st])) fd (.lst (rows ++ [.ref p6])) = H8 at t8 now8 hf8 ⊢
              generalize upd (upd Sc st (.lst ss)) p6 (.tup [nmV ms b, .ref st]) = Sc8 at t8 row7 u7
              have rows8 : ∀ (u : Nat) y, (rows ++ [.ref p6])[u]? = some y → RowAt K Sc8 ms u y := fun u y hy => by
                by_cases z : u < rows.length
                · rw [List.getElem?_append_left z] at hy
                  exact (hrow u y hy).ex u7
                · rw [List.getElem?_append_right (by omega)] at hy
                  have : u - rows.length = 0 := by
                    have := (List.getElem?_eq_some_iff.mp hy).1
                    simp at this; omega
                  rw [this] at hy
                  cases hy
                  rw [show u = tick by omega]
                  exact row7
              clear hrow u7 row7 hf7 now7 t7 p6n row6 t6 hst hss now hf t u up5
              dsimp only
              -- the next cells
              refine ⟨_, rfl, D, _, rfl, Sq.l now8.lst, fun cp ncp => ?_⟩
              have allN : ∀ {Hx : Hp} {as : List Addr} {f : Nat → Tk → List V}, NowAt Hx D as ms f → Hx fd = some (.lst (rows ++ [.ref p6])) → ∀ l ∈ fd :: D :: as, Hx l ≠ none := fun h1 h2 l hl => by
                rcases List.mem_cons.mp hl with e | hl
                · rw [e, h2]; exact fun q => nomatch q
                · exact h1.all l hl
              have cpn : cp ∉ fd :: D :: as := fun z => allN now8 hf8 cp z ncp
              have t9 := t8.lay (o := .lst (as.map V.ref)) ncp (allN now8 hf8)
              have now9 := now8.other (o := .lst (as.map V.ref)) (fun z => cpn (List.mem_cons_of_mem _ z))
              have hf9 : (upd H8 cp (.lst (as.map V.ref))) fd = some (.lst (rows ++ [.ref p6])) := by rw [upd_ne (fun z => cpn (by rw [← z]; exact List.mem_cons_self))]; exact hf8
              have u9 : Ex Sc8 (upd Sc8 cp (.lst (as.map V.ref))) := Ex.new (t8.cur.free ncp)
              have cps : (upd Sc8 cp (.lst (as.map V.ref))) cp = some (.lst (as.map V.ref)) := upd_same
              have cph : (upd H8 cp (.lst (as.map V.ref))) cp = some (.lst (as.map V.ref)) := upd_same
              generalize upd Sc8 cp (.lst (as.map V.ref)) = Sc9 at t9 u9 cps
              generalize upd H8 cp (.lst (as.map V.ref)) = H9 at t9 now9 hf9 cph ⊢
              clear cpn ncp hf8 now8 t8
              refine ⟨cp, as.map V.ref, rfl, SqL.of cph, forE (xs := as.map V.ref) (fun i σ Hc => ∃ (Sc : Hp) (as' : List Addr) (y3 y10 : Option V), σ = [some (.ref a), some (.int n), some (.ref D), y3, x4, some (.ref fd), some (.int (0 + (tick : Nat))), some (.ref p), some (bestV b), some (.ref st), y10] ∧ Stm S H [] (fd :: D :: as') Sc Hc ∧ Ex Sc9 Sc ∧
                NowAt Hc D as' ms (fun j m => rowV m (if j < i then cel ms ((tick + 1 : Nat) : Int) j m else cel ms ((tick : Nat) : Int) j m)) ∧ fd ∉ D :: as' ∧ Hc fd = some (.lst (rows ++ [.ref p6])) ∧ ∀ j, i ≤ j → as'[j]? = as[j]?) ?_ ?_ ?_ ?_⟩
              · exact ⟨Sc9, as, _, _, rfl, t9, Ex.refl _, now9.congr (fun j m _ => by rw [if_neg (Nat.not_lt_zero _)]), fdn, hf9, fun j _ => rfl⟩
              · rintro i σ Hc hi ⟨Sc, as', y3, y10, rfl, t, u, now, fdn', hf, same⟩
                exact SqL.of (t.cur _ _ (u _ _ cps))
              · clear hf9 now9 t9 cph
                rintro i x σ Hc T2 hx ⟨Sc, as', y3, y10, rfl, t, u, now, fdn', hf, same⟩ nT
                rw [List.getElem?_map] at hx
                obtain ⟨c, hc, rfl⟩ := Option.map_eq_some_iff.mp hx
                rw [← same i (Nat.le_refl _)] at hc
                obtain ⟨m, hm, cm⟩ := now.tk hc
                rw [if_neg (Nat.lt_irrefl _)] at cm
                have eT : Ex Hc (upd Hc T2 (.tup [.int (i : Nat), .ref c])) := Ex.new nT
                have t2 := t.stepE (allN now hf) eT
                have u2 := u.trans (ext_up (H2 := upd Hc T2 (.tup [.int (i : Nat), .ref c])) t.cur)
                replace now := now.ex eT
                replace cm := eT _ _ cm
                replace hf := eT _ _ hf
                generalize ext Sc Hc (upd Hc T2 (.tup [.int (i : Nat), .ref c])) = Sc2 at t2 u2
                generalize upd Hc T2 (.tup [.int (i : Nat), .ref c]) = H5 at t2 now cm hf ⊢
                clear t u eT nT hx
                have up := t2.sub.trans t2.cur
                have okm := ok.ok m (List.mem_of_getElem? hm)
                have hi := (List.getElem?_eq_some_iff.mp hm).1
                have step : stepCell ms b i m (cel ms ((tick : Nat) : Int) i m) = cel ms ((tick + 1 : Nat) : Int) i m := cel_step ok.ok ok.rk (by omega) hb hm
                have shape := cel_shape ok.ok (T := ((tick : Nat) : Int)) hm
                generalize hX : cel ms ((tick : Nat) : Int) i m = X at step shape cm
                obtain ⟨xh, hxh, ta, q1, q2, rfl, htk, ht1, ht2⟩ := Paired.get2 _ hp hm
                -- how a turn ends
                have keep : ∀ {σ' : St} {Hz Scz : Hp} {r : List V}, (∃ y3 y10, σ' = [some (.ref a), some (.int n), some (.ref D), y3, x4, some (.ref fd), some (.int (0 + (tick : Nat))), some (.ref p), some (bestV b), some (.ref st), y10]) → Stm S H [] (fd :: D :: as') Scz Hz → Ex Sc9 Scz → NowAt Hz D as' ms (fun j u => if j = i then r else rowV u (if j < i then cel ms ((tick + 1 : Nat) : Int) j u else cel ms ((tick : Nat) : Int) j u)) → Hz fd = some (.lst (rows ++ [.ref p6])) → r = rowV m (stepCell ms b i m X) →
                    ∃ (Sc : Hp) (as' : List Addr) (y3 y10 : Option V), σ' = [some (.ref a), some (.int n), some (.ref D), y3, x4, some (.ref fd), some (.int (0 + (tick : Nat))), some (.ref p), some (bestV b), some (.ref st), y10] ∧ Stm S H [] (fd :: D :: as') Sc Hz ∧ Ex Sc9 Sc ∧
                      NowAt Hz D as' ms (fun j m => rowV m (if j < i + 1 then cel ms ((tick + 1 : Nat) : Int) j m else cel ms ((tick : Nat) : Int) j m)) ∧ fd ∉ D :: as' ∧ Hz fd = some (.lst (rows ++ [.ref p6])) ∧ ∀ j, i + 1 ≤ j → as'[j]? = as[j]? := by
                  rintro σ' Hz Scz r ⟨y3, y10, rfl⟩ h1 h2 h3 h4 h5
                  refine ⟨Scz, as', y3, y10, rfl, h1, h2, h3.congr fun j u hu => ?_, fdn', h4, fun j hj => same j (by omega)⟩
                  by_cases e : j = i
                  · subst e
                    rw [hm] at hu; cases hu
                    rw [if_pos rfl, if_pos (Nat.lt_succ_self _), h5, step]
                  · rw [if_neg e]
                    by_cases z : j < i
                    · rw [if_pos z, if_pos (Nat.lt_succ_of_lt z)]
                    · rw [if_neg z, if_neg (show ¬ j < i + 1 by omega)]
                have il : i < as'.length := by rw [now.len]; exact hi
                have swap : ∀ {σ' : St} {Hz Scz : Hp} {r r0 : List V} {p9 : Addr}, (∃ y3 y10, σ' = [some (.ref a), some (.int n), some (.ref D), y3, x4, some (.ref fd), some (.int (0 + (tick : Nat))), some (.ref p), some (bestV b), some (.ref st), y10]) → Stm S H [] (fd :: D :: as') Scz Hz → Ex Sc9 Scz → NowAt Hz D as' ms (fun j u => if j = i then r0 else rowV u (if j < i then cel ms ((tick + 1 : Nat) : Int) j u else cel ms ((tick : Nat) : Int) j u)) → Hz fd = some (.lst (rows ++ [.ref p6])) → Hz p9 = none → r = rowV m (stepCell ms b i m X) →
                    ∃ (Sc : Hp) (as2 : List Addr) (y3 y10 : Option V), σ' = [some (.ref a), some (.int n), some (.ref D), y3, x4, some (.ref fd), some (.int (0 + (tick : Nat))), some (.ref p), some (bestV b), some (.ref st), y10] ∧ Stm S H [] (fd :: D :: as2) Sc (upd (upd Hz p9 (.lst r)) D (.lst ((List.map V.ref as').set i (.ref p9)))) ∧ Ex Sc9 Sc ∧
                      NowAt (upd (upd Hz p9 (.lst r)) D (.lst ((List.map V.ref as').set i (.ref p9)))) D as2 ms (fun j m => rowV m (if j < i + 1 then cel ms ((tick + 1 : Nat) : Int) j m else cel ms ((tick : Nat) : Int) j m)) ∧ fd ∉ D :: as2 ∧ (upd (upd Hz p9 (.lst r)) D (.lst ((List.map V.ref as').set i (.ref p9)))) fd = some (.lst (rows ++ [.ref p6])) ∧ ∀ j, i + 1 ≤ j → as2[j]? = as[j]? := by
                  rintro σ' Hz Scz r r0 p9 ⟨y3, y10, rfl⟩ h1 h2 h3 h4 np9 h5
                  have p9n : p9 ∉ fd :: D :: as' := fun z => allN h3 h4 p9 z np9
                  have fdD : fd ≠ D := fun z => fdn' (by rw [z]; exact List.mem_cons_self)
                  refine ⟨Scz, as'.set i p9, y3, y10, rfl, ((h1.cell (o := .lst r) np9).put (l := D) (List.mem_cons_of_mem _ (List.mem_cons_of_mem _ List.mem_cons_self))).drop (fun l hl => ?_), h2, ((h3.other (fun z => p9n (List.mem_cons_of_mem _ z))).swap il upd_same (fun z => p9n (List.mem_cons_of_mem _ z))).congr fun j u hu => ?_, fun z => ?_, by rw [upd_ne fdD, upd_ne (fun z => p9n (by rw [← z]; exact List.mem_cons_self))]; exact h4, fun j hj => by rw [List.getElem?_set_ne (by omega)]; exact same j (by omega)⟩
                  · rcases List.mem_cons.mp hl with e | hl
                    · rw [e]; exact List.mem_cons_of_mem _ List.mem_cons_self
                    · rcases List.mem_cons.mp hl with e | hl
                      · rw [e]; exact List.mem_cons_of_mem _ (List.mem_cons_of_mem _ List.mem_cons_self)
                      · rcases List.mem_or_eq_of_mem_set hl with q | q
                        · exact List.mem_cons_of_mem _ (List.mem_cons_of_mem _ (List.mem_cons_of_mem _ q))
                        · rw [q]; exact List.mem_cons_self
                  · by_cases e : j = i
                    · subst e
                      rw [hm] at hu; cases hu
                      rw [if_pos rfl, if_pos (Nat.lt_succ_self _), h5, step]
                    · rw [if_neg e, if_neg e]
                      by_cases z : j < i
                      · rw [if_pos z, if_pos (Nat.lt_succ_of_lt z)]
                      · rw [if_neg z, if_neg (show ¬ j < i + 1 by omega)]
                  · rcases List.mem_cons.mp z with e | hl
                    · exact fdD e
                    · rcases List.mem_or_eq_of_mem_set hl with q | q
                      · exact fdn' (List.mem_cons_of_mem _ q)
                      · exact p9n (by rw [← q]; exact List.mem_cons_self)
                by_cases hbi : b = some i
                · subst hbi
                  obtain ⟨m', hm', hc0, _⟩ := spk_best ok.ok ok.rk (by omega) hb
                  rw [hm] at hm'; cases hm'
                  rw [hX] at hc0
                  refine ⟨_, rfl, _, rfl, scal_best _ _, _, rfl, ?_⟩
                  rw [dec_best, decide_eq_true rfl]
                  refine iteT ?_
                  have lf : lfW m X = (m.sch.nth X.k).2 - X.s := if_neg (by omega)
                  have hst : stW X = "ready" := if_neg (by omega)
                  have stp : stepCell ms (some i) i m X = if X.s + 1 = (m.sch.nth X.k).2 then ⟨X.k + 1, (m.sch.nth (X.k + 1)).1, 0⟩ else ⟨X.k, X.c, X.s + 1⟩ := if_pos rfl
                  refine ⟨_, rfl, c, _, 2, _, rfl, rfl, Sq.l cm, rfl, _, _, rfl, rfl, _, rfl, c, _, 3, _, rfl, rfl, Sq.l cm, rfl, _, _, rfl, rfl, by show 2 ≤ sizeLine; decide, fun p8 np8 => ?_⟩
                  have p8n : p8 ∉ fd :: D :: as' := fun z => allN now hf p8 z np8
                  have cas : c ∈ as' := List.mem_of_getElem? hc
                  have cp8 : c ≠ p8 := fun z => p8n (by rw [← z]; exact List.mem_cons_of_mem _ (List.mem_cons_of_mem _ cas))
                  refine ⟨p8, _, rfl, SqT.of upd_same, rfl, _, _, rfl, _, rfl, c, _, 2, 2, rfl, rfl, by rw [upd_ne cp8]; exact cm, rfl, _, _, rfl, _, rfl, c, _, 3, 3, rfl, rfl, upd_same, rfl, rfl, ?_⟩
                  have t6 := ((t2.lay (o := .tup [.int (lfW m X - 1), .int (X.s + 1)]) np8 (allN now hf)).put (l := c) (o := .lst ((rowV m X).set 2 (.int (lfW m X - 1)))) (List.mem_cons_of_mem _ (List.mem_cons_of_mem _ cas))).put (l := c) (o := .lst (((rowV m X).set 2 (.int (lfW m X - 1))).set 3 (.int (X.s + 1)))) (List.mem_cons_of_mem _ (List.mem_cons_of_mem _ cas))
                  have now6 := (((now.other (o := .tup [.int (lfW m X - 1), .int (X.s + 1)]) (fun z => p8n (List.mem_cons_of_mem _ z))).put hc ((rowV m X).set 2 (.int (lfW m X - 1)))).put hc (((rowV m X).set 2 (.int (lfW m X - 1))).set 3 (.int (X.s + 1)))).congr (g := fun j u => if j = i then [.str (stW X), .int X.k, .int (lfW m X - 1), .int (X.s + 1)] else rowV u (if j < i then cel ms ((tick + 1 : Nat) : Int) j u else cel ms ((tick : Nat) : Int) j u)) fun j u _ => by
                    by_cases e : j = i
                    · rw [if_pos e, if_pos e]; rfl
                    · rw [if_neg e, if_neg e, if_neg e]
                  have hf6 : (upd (upd (upd H5 p8 (.tup [.int (lfW m X - 1), .int (X.s + 1)])) c (.lst ((rowV m X).set 2 (.int (lfW m X - 1))))) c (.lst (((rowV m X).set 2 (.int (lfW m X - 1))).set 3 (.int (X.s + 1))))) fd = some (.lst (rows ++ [.ref p6])) := by
                    have cf : fd ≠ c := fun z => fdn' (by rw [z]; exact List.mem_cons_of_mem _ cas)
                    rw [upd_ne cf, upd_ne cf, upd_ne (fun z => p8n (by rw [← z]; exact List.mem_cons_self))]
                    exact hf
                  have cm6 : (upd (upd (upd H5 p8 (.tup [.int (lfW m X - 1), .int (X.s + 1)])) c (.lst ((rowV m X).set 2 (.int (lfW m X - 1))))) c (.lst (((rowV m X).set 2 (.int (lfW m X - 1))).set 3 (.int (X.s + 1))))) c = some (.lst [.str (stW X), .int X.k, .int (lfW m X - 1), .int (X.s + 1)]) := upd_same
                  have u6 := u2.trans (Ex.new (o := .tup [.int (lfW m X - 1), .int (X.s + 1)]) (t2.cur.free np8))
                  generalize upd Sc2 p8 (.tup [.int (lfW m X - 1), .int (X.s + 1)]) = Sc6 at t6 u6
                  generalize upd (upd (upd H5 p8 (.tup [.int (lfW m X - 1), .int (X.s + 1)])) c (.lst ((rowV m X).set 2 (.int (lfW m X - 1))))) c (.lst (((rowV m X).set 2 (.int (lfW m X - 1))).set 3 (.int (X.s + 1)))) = H6 at t6 now6 hf6 cm6 ⊢
                  have up6 := t6.sub.trans t6.cur
                  refine ⟨_, rfl, c, _, 2, _, rfl, rfl, Sq.l cm6, rfl, rfl, _, rfl, ?_⟩
                  by_cases last : X.s + 1 = (m.sch.nth X.k).2
                  · rw [show decide (V.int (lfW m X - 1) = V.int 0) = true from decide_eq_true (by rw [show lfW m X - 1 = 0 by omega])]
                    refine iteT ?_
                    refine ⟨_, rfl, c, _, 1, _, rfl, rfl, Sq.l cm6, rfl, _, _, rfl, rfl, _, rfl, _, rfl, a, xs, i, _, rfl, rfl, .inl (Evl.ex_l up6 hs), atI_nat hxh, _, rfl, c, _, 1, _, rfl, rfl, Sq.l cm6, rfl, _, _, rfl, rfl, use_nth (i := X.k + 1) up6 ⟨ta, q1, q2, rfl, htk, ht1, ht2⟩ okm fun w H7 e7 tw => ?_⟩
                    obtain ⟨wa, rfl, sw⟩ := tw
                    refine ⟨wa, _, 0, _, rfl, rfl, sw.ex (up6.trans e7), rfl, by show 4 ≤ sizeLine; decide, fun p9 np9 => ?_⟩
                    have now7 := now6.ex e7
                    have p9D : p9 ≠ D := fun z => by rw [z, now7.lst] at np9; cases np9
                    refine ⟨_, rfl, _, rfl, D, _, i, i, rfl, rfl, by rw [upd_ne p9D.symm]; exact now7.lst, by rw [List.length_map]; exact Evl.ixN_nat il, ?_⟩
                    have n1 := (Sch.nth_ok okm (X.k + 1)).1
                    refine swap ⟨_, _, rfl⟩ (t6.stepE (allN now6 hf6) e7) (u6.trans (ext_up t6.cur)) now7 (e7 _ _ hf6) np9 ?_
                    rw [stp, if_pos last]
                    unfold rowV stW lfW
                    rw [if_pos (show 0 < (m.sch.nth (X.k + 1)).1 by omega), if_pos (show 0 < (m.sch.nth (X.k + 1)).1 by omega)]
                    rfl
                  · rw [show decide (V.int (lfW m X - 1) = V.int 0) = false from decide_eq_false (fun z => by injection z with z; omega)]
                    refine iteF (next1 ?_)
                    refine keep ⟨_, _, rfl⟩ t6 u6 now6 hf6 ?_
                    rw [stp, if_neg last]
                    unfold rowV stW lfW
                    dsimp only
                    rw [if_neg (show ¬ 0 < X.c by omega), if_neg (show ¬ 0 < X.c by omega), if_neg (show ¬ 0 < X.c by omega)]
                    rw [show (m.sch.nth X.k).2 - X.s - 1 = (m.sch.nth X.k).2 - (X.s + 1) by omega]
                · refine ⟨_, rfl, _, rfl, scal_best _ _, _, rfl, ?_⟩
                  rw [dec_best, decide_eq_false hbi]
                  refine iteF ?_
                  refine ⟨_, rfl, c, _, 0, _, rfl, rfl, Sq.l cm, rfl, rfl, _, rfl, ?_⟩
                  have now' := now.congr (g := fun j u => if j = i then rowV m X else rowV u (if j < i then cel ms ((tick + 1 : Nat) : Int) j u else cel ms ((tick : Nat) : Int) j u)) fun j u hu => by
                    by_cases e : j = i
                    · subst e
                      rw [hm] at hu; cases hu
                      rw [if_pos rfl, if_neg (Nat.lt_irrefl _), hX]
                    · rw [if_neg e]
                  rcases shape with ⟨c0, s0⟩ | ⟨c0, s0⟩
                  · have hst : stW X = "ready" := if_neg (by omega)
                    rw [hst, show decide (V.str (Str.ofString "ready") = V.str (Str.ofString "silent")) = false by decide +kernel]
                    refine iteF (iteF (next1 ?_))
                    refine keep ⟨_, _, rfl⟩ t2 u2 now' hf ?_
                    rw [show stepCell ms b i m X = X from (if_neg hbi).trans (if_neg fun z => by omega)]
                  · have hst : stW X = "silent" := if_pos c0
                    have lf : lfW m X = X.c := if_pos c0
                    rw [hst, show decide (V.str (Str.ofString "silent") = V.str (Str.ofString "silent")) = true from decide_eq_true rfl]
                    refine iteT (cond_val (i0 := 0) (i3 := 3) (i8 := 8) rfl rfl rfl (Evl.ex_l up hs) hp up hm ok.rk hb _ ?_)
                    by_cases hlt : m.rank < rkAt ms b
                    · rw [decide_eq_true hlt]
                      refine iteT ?_
                      have stp : stepCell ms b i m X = ⟨X.k, X.c - 1, X.s⟩ := (if_neg hbi).trans (if_pos ⟨c0, hlt⟩)
                      have cas : c ∈ as' := List.mem_of_getElem? hc
                      refine ⟨_, rfl, c, _, 2, _, rfl, rfl, Sq.l cm, rfl, _, _, rfl, rfl, _, rfl, c, _, 2, 2, rfl, rfl, cm, rfl, ?_⟩
                      have t6 := t2.put (l := c) (o := .lst ((rowV m X).set 2 (.int (lfW m X - 1)))) (List.mem_cons_of_mem _ (List.mem_cons_of_mem _ cas))
                      have now6 := (now.put hc ((rowV m X).set 2 (.int (lfW m X - 1)))).congr (g := fun j u => if j = i then [.str (stW X), .int X.k, .int (lfW m X - 1), .int X.s] else rowV u (if j < i then cel ms ((tick + 1 : Nat) : Int) j u else cel ms ((tick : Nat) : Int) j u)) fun j u _ => by
                        by_cases e : j = i
                        · rw [if_pos e, if_pos e]; rfl
                        · rw [if_neg e, if_neg e]
                      have hf6 : (upd H5 c (.lst ((rowV m X).set 2 (.int (lfW m X - 1))))) fd = some (.lst (rows ++ [.ref p6])) := by
                        rw [upd_ne (fun z => fdn' (by rw [z]; exact List.mem_cons_of_mem _ cas))]
                        exact hf
                      have cm6 : (upd H5 c (.lst ((rowV m X).set 2 (.int (lfW m X - 1))))) c = some (.lst [.str (stW X), .int X.k, .int (lfW m X - 1), .int X.s]) := upd_same
                      generalize upd H5 c (.lst ((rowV m X).set 2 (.int (lfW m X - 1)))) = H6 at t6 now6 hf6 cm6 ⊢
                      have up6 := t6.sub.trans t6.cur
                      refine ⟨_, rfl, c, _, 2, _, rfl, rfl, Sq.l cm6, rfl, rfl, _, rfl, ?_⟩
                      by_cases last : X.c - 1 = 0
                      · rw [show decide (V.int (lfW m X - 1) = V.int 0) = true from decide_eq_true (by rw [lf, last])]
                        refine iteT ?_
                        refine ⟨_, rfl, c, _, 1, _, rfl, rfl, Sq.l cm6, rfl, _, rfl, _, rfl, a, xs, i, _, rfl, rfl, .inl (Evl.ex_l up6 hs), atI_nat hxh, _, rfl, c, _, 1, _, rfl, rfl, Sq.l cm6, rfl, use_nth (i := X.k) up6 ⟨ta, q1, q2, rfl, htk, ht1, ht2⟩ okm fun w H7 e7 tw => ?_⟩
                        obtain ⟨wa, rfl, sw⟩ := tw
                        refine ⟨wa, _, 1, _, rfl, rfl, sw.ex (up6.trans e7), rfl, by show 4 ≤ sizeLine; decide, fun p9 np9 => ?_⟩
                        have now7 := now6.ex e7
                        have p9D : p9 ≠ D := fun z => by rw [z, now7.lst] at np9; cases np9
                        refine ⟨_, rfl, _, rfl, D, _, i, i, rfl, rfl, by rw [upd_ne p9D.symm]; exact now7.lst, by rw [List.length_map]; exact Evl.ixN_nat il, ?_⟩
                        refine swap ⟨_, _, rfl⟩ (t6.stepE (allN now6 hf6) e7) (u2.trans (ext_up t6.cur)) now7 (e7 _ _ hf6) np9 ?_
                        rw [stp]
                        unfold rowV stW lfW
                        dsimp only
                        rw [if_neg (show ¬ 0 < X.c - 1 by omega), if_neg (show ¬ 0 < X.c - 1 by omega), s0, Int.sub_zero]
                      · rw [show decide (V.int (lfW m X - 1) = V.int 0) = false from decide_eq_false (fun z => by injection z with z; omega)]
                        refine iteF (next1 ?_)
                        refine keep ⟨_, _, rfl⟩ t6 u2 now6 hf6 ?_
                        rw [stp, lf]
                        unfold rowV stW lfW
                        dsimp only
                        rw [if_pos (show 0 < X.c - 1 by omega), if_pos (show 0 < X.c - 1 by omega), if_pos c0]
                    · rw [decide_eq_false hlt]
                      refine iteF (next1 ?_)
                      refine keep ⟨_, _, rfl⟩ t2 u2 now' hf ?_
                      rw [show stepCell ms b i m X = X from (if_neg hbi).trans (if_neg fun z => hlt z.2)]
              · rintro σ Hc ⟨Sc, as', y3, y10, rfl, t, u, now, fdn', hf, same⟩
                refine ⟨Sc, as', rows ++ [.ref p6], _, _, _, _, _, _, _, rfl, t, now.congr (fun j m hm => by
                  rw [if_pos (by rw [List.length_map, now9.len]; exact (List.getElem?_eq_some_iff.mp hm).1)]), fdn', hf, by rw [List.length_append, hrl]; rfl, fun u' y hy => ((rows8 u' y hy).ex u9).ex u⟩
        · rintro σ Hc ⟨Sc, as, rows, x3, x4, x6, x7, x8, x9, x10, rfl, t, now, fdn, hf, hrl, hrow⟩
          dsimp only
          have t2 := t.freeze hf fdn
          have up := t2.fin hS
          refine ⟨_, rfl, k _ Hc t.keep.nil ⟨fd, rows, rfl, SqL.of (up _ _ upd_same), by omega, fun u y hy => ((hrow u y hy).ex (Ex.new (t.loc fd List.mem_cons_self).1)).ex up⟩⟩
end
end HR
namespace HR
open PySem L2
section
variable {P : Program} {w : World} {K : PySem.W.Frag} {mg : Str → Option Value} {base : Heap} {C : String → Addr}
structure RightAsk where
  v : V
  hd : V
  ms : List Tk
  k : Nat
def sp_right (K : PySem.W.Frag) : Sp := Spec (α := RightAsk) (fun x => [x.v, x.hd, .int ((x.k : Int) + 1)]) fun x H Q => HallV K H x.v x.ms ∧ HallAt K H x.hd x.ms ∧ HallOk x.ms ∧ x.k < 10 ∧ ∀ H', Ex H H' → Q (.bl true) H'
open Classical in
theorem la_count {ms : List Tk} (ok : HallOk ms) {t : Nat} {b : Option Nat} (sp : IsSpk ms (t : Int) b) (k : Nat) (hk : k ≤ 10) : la ms ((t + 1 : Nat) : Int) k = la ms (t : Int) k + (if decide ((k : Int) < rkAt ms b) = true then 1 else 0) := by
  have h1 := la_succ ok.ok (T := (t : Int)) (by omega) k
  have h2 := spk_lt ok.ok ok.rk (T := (t : Int)) (by omega) sp k hk
  rw [show ((t + 1 : Nat) : Int) = (t : Int) + 1 by omega, h1]
  by_cases z : lt ms (t : Int) k
  · rw [if_pos z, if_pos (decide_eq_true (h2.mp z))]
  · rw [if_neg z, if_neg (by rw [decide_eq_true_eq]; exact fun q => z (h2.mpr q))]
theorem C__law_right (T : Txt K mg C) : C8.Cal P w K mg base 9 "_law_right" (sp_right K) [] :=
  cal_of T.f__law_right sc__law_right (fun _ => rfl) fun f cdv A outer s H x Q E hr h => by
    obtain ⟨v, hd, ms, k⟩ := x
    dsimp only at h ⊢
    obtain ⟨hv, hh, ok, k10, fin⟩ := h
    refine ⟨_, (pss_cons (ps_set (i := 3) sc__law_right.nd rfl (.inl rfl) (pe_callTy (call_dictP rfl) (by rfl) T.b_dict bt_dict (pa_cons (pe_lc (own := [("_law_talker", 10)]) rfl sc__law_right.nd (kpi_any K rfl (pv 0)) (blkOk_by (own := [("_law_talker", 10)]) (N := N__law_right) (sc := C8.fnScope s__law_right) (by decide +kernel)) (fun _ _ _ _ _ => (pg_name (i := 10) sc__law_right.nd rfl (.inl rfl))) (fun _ _ _ _ _ => pts_nil) (fun _ _ _ _ _ => (pe_tup (pa_cons (pe_ix (kix_any K rfl) (pv 10) pe_int (fun _ _ => rfl)) (pa_cons (pe_ix (kix_any K rfl) (pv 10) pe_int (fun _ _ => rfl)) pa_nil))))) pa_nil)))
    (pss_cons (ps_asg (pe_tup (pa_cons pe_int (pa_cons pe_int pa_nil))) (kpg_tup K rfl (n := 2) (pgs_cons (pg_name (i := 4) sc__law_right.nd rfl (.inl rfl)) (pgs_cons (pg_name (i := 5) sc__law_right.nd rfl (.inl rfl)) pgs_nil))))
    (pss_cons (ps_for PassesOwn.never rfl (kpi_enum K rfl (by rfl) T.b_enumerate (pa_cons (C8.pe_c (C__law_run T) hr (by omega) (by rfl) (pa_cons (pv 0) (pa_cons pe_int pa_nil))) pa_nil)) (kpg_tup K rfl (n := 2) (pgs_cons (pg_name (i := 6) sc__law_right.nd rfl (.inl rfl)) (pgs_cons (pg_name (i := 7) sc__law_right.nd rfl (.inl rfl)) pgs_nil))) (C8.pss_cut (ps_if (pt_cmpR op_eq (pe_op op_mod (pv 6) pe_int) pe_int (nomark _)) (pss_cons (ps_set (i := 8) sc__law_right.nd rfl (.inl rfl) (pe_lst (pa_cons (C8.pe_c (C_left_before T) hr (by omega) (by rfl) (pa_cons (pv 1) (pa_cons (pv 2) (pa_cons (pv 6) pa_nil)))) (pa_cons (C8.pe_c (C_quiet_before T) hr (by omega) (by rfl) (pa_cons (pv 1) (pa_cons (pv 2) (pa_cons (pv 6) pa_nil)))) pa_nil))))
    (pss_one (ps_if (pt_cmpR (kneD K rfl (hu64 hr)) (pv 8) (pe_lst (pa_cons (pv 4) (pa_cons (pv 5) pa_nil))) (nomark _)) (pss_one (ps_ret pe_bl)) pss_nil))) pss_nil)
    (pss_cons (ps_set (i := 9) sc__law_right.nd rfl (.inl rfl) (pe_dget2N (hu_of hr) (pv 3) (pe_ix (kix_any K rfl) (pv 7) pe_int (fun _ _ => rfl)) pe_int ⟨rfl, rfl, rfl, rfl⟩))
    (pss_cons (ps_set (i := 4) sc__law_right.nd rfl (.inl rfl) (pe_op op_add (pv 4) (pe_callTy call_int1 (by rfl) T.b_int bt_int (pa_cons (pe_cmpR op_ge (pv 9) (pv 2) (nomark _)) pa_nil))))
    (pss_one (ps_set (i := 5) sc__law_right.nd rfl (.inl rfl) (pe_op op_add (pv 5) (pe_callTy call_int1 (by rfl) T.b_int bt_int (pa_cons (pe_cmpR op_gt (pv 9) (pv 2) (nomark _)) pa_nil)))))))))
    (pss_one (ps_ret (pe_cmpR (keqD K rfl (hu64 hr)) (pe_lst (pa_cons (C8.pe_c (C_left_before T) hr (by omega) (by rfl) (pa_cons (pv 1) (pa_cons (pv 2) (pa_cons pe_int pa_nil)))) (pa_cons (C8.pe_c (C_quiet_before T) hr (by omega) (by rfl) (pa_cons (pv 1) (pa_cons (pv 2) (pa_cons pe_int pa_nil)))) pa_nil))) (pe_lst (pa_cons (pv 4) (pa_cons (pv 5) pa_nil))) (nomark _))))))), ?_⟩
    refine asg1 (ranks_dict (i := 10) (i0 := 0) (σ := L2.start N__law_right [v, hd, .int ((k : Int) + 1)]) hv.any ok.len rfl (by show 10 < 11; omega) fun rd H1 e1 hrd => ?_)
    dsimp only [gName]
    refine ⟨by show 2 ≤ sizeLine; decide, fun p np => ⟨p, _, rfl, SqT.of upd_same, rfl, _, _, rfl, _, _, rfl, rfl, ?_⟩⟩
    have e1' : Ex H1 (upd H1 p (.tup [.int 0, .int 0])) := Ex.new np
    replace hrd := e1' _ _ hrd
    replace e1 := e1.trans e1'
    generalize upd H1 p (.tup [.int 0, .int 0]) = H1 at e1 hrd ⊢
    clear e1' np
    dsimp only
    refine ⟨_, rfl, use_run (n := 90) e1 hv ok (by decide) fun rv H2 e2 ⟨fd, rows, ervr, hrows, hrl, hrow⟩ => ?_⟩
    subst ervr
    have x2 : Ex (ext H H1 H2) H2 := fun a o q => by
      by_cases z : H1 a = none
      · rw [ext_new z] at q; exact q
      · rw [show ext H H1 H2 a = H a from if_neg z] at q; exact e2 _ _ (e1 _ _ q)
    have hrows2 : SqL K H2 fd rows := Evl.ex_l x2 hrows
    refine ⟨fd, rows, rfl, hrows2, forE (xs := rows) (fun i σ Hc => ∃ x6 x7 x8 x9 x10 : Option V, σ = [some v, some hd, some (.int ((k : Int) + 1)), some (.ref rd), some (.int (la ms (i : Nat) k)), some (.int (la ms (i : Nat) (k + 1))), x6, x7, x8, x9, x10] ∧ Ex H2 Hc) ?_ ?_ ?_ ?_⟩
    · refine ⟨none, none, none, none, none, ?_, Ex.refl _⟩
      rw [show ((0 : Nat) : Int) = 0 from rfl, la_zero ok.ok, la_zero ok.ok]
      rfl
    · rintro i σ Hc hi ⟨x6, x7, x8, x9, x10, rfl, e⟩
      exact Evl.ex_l e hrows2
    · rintro i x σ Hc T2 hx ⟨x6, x7, x8, x9, x10, rfl, e⟩ nT
      have i90 : i < 90 := by have := (List.getElem?_eq_some_iff.mp hx).1; omega
      obtain ⟨rp, st, b, rfl, hrp, sp, _⟩ := hrow i x hx
      replace e := e.trans (Ex.new (o := .tup [.int (i : Nat), .ref rp]) nT)
      generalize upd Hc T2 (.tup [.int (i : Nat), .ref rp]) = H3 at e ⊢
      have e03 := (e1.trans e2).trans e
      have bd : Bd (i : Nat) := Bd.ofTop (top_small (by omega))
      refine ⟨fun σ H' => ∃ x8 : Option V, σ = [some v, some hd, some (.int ((k : Int) + 1)), some (.ref rd), some (.int (la ms (i : Nat) k)), some (.int (la ms (i : Nat) (k + 1))), some (.int (i : Nat)), some (.ref rp), x8, x9, x10] ∧ Ex H3 H', ?_, ?_⟩
      · refine ⟨_, rfl, _, _, rfl, rfl, (show (0 : Int) < 3 by decide), rfl, _, rfl, ?_⟩
        by_cases hj : V.int ((i : Nat) % 3) = V.int 0
        · rw [decide_eq_true hj]
          refine iteT ?_
          refine ⟨_, rfl, _, rfl, _, rfl, (hd, ms, k, (i : Nat)), rfl, hh.ex e03, ok, k10, bd, (by show (0 : Int) ≤ (i : Nat); omega), fun H4 e4 => ?_⟩
          refine ⟨_, rfl, _, rfl, _, rfl, (hd, ms, k, (i : Nat)), rfl, hh.ex (e03.trans e4), ok, k10, bd, (by show (0 : Int) ≤ (i : Nat); omega), fun H5 e5 => ?_⟩
          refine ⟨by show 2 ≤ sizeLine; decide, fun q nq => ?_⟩
          dsimp only [gName]
          refine ⟨_, rfl, _, rfl, _, rfl, by show 2 ≤ sizeLine; decide, fun q2 nq2 => ?_⟩
          refine use_neInts [la ms (i : Nat) k, la ms (i : Nat) (k + 1)] [la ms (i : Nat) k, la ms (i : Nat) (k + 1)] (SqL.of ((Ex.new nq2) _ _ upd_same)) (SqL.of upd_same) ⟨_, rfl, ?_⟩
          rw [decide_eq_true rfl]
          exact iteF (next1 ⟨_, rfl, ((e4.trans e5).trans (Ex.new nq)).trans (Ex.new nq2)⟩)
        · rw [decide_eq_false hj]
          exact iteF (next1 ⟨_, rfl, Ex.refl _⟩)
      · rintro σ' H4 ⟨x8, rfl, e4⟩
        have e24 := e.trans e4
        refine asg1 (dget_rank ok sp rfl rfl (e24 _ _ (e2 _ _ hrd)) (.inr (Evl.ex_t (x2.trans e24) hrp)) ?_)
        dsimp only [gName]
        refine ⟨_, rfl, _, rfl, _, rfl, _, _, rfl, rfl, .inr ⟨_, rfl, _, _, rfl, rfl, ?_⟩⟩
        dsimp only [gName]
        refine ⟨_, rfl, _, rfl, _, rfl, _, _, rfl, rfl, .inr ⟨_, rfl, _, _, rfl, rfl, ?_⟩⟩
        refine ⟨some (.int (i : Nat)), some (.ref rp), x8, some (.int (rkAt ms b)), x10, ?_, e24⟩
        rw [la_count ok sp k (by omega), la_count ok sp (k + 1) (by omega)]
        have d1 : decide ((k : Int) + 1 ≤ rkAt ms b) = decide ((k : Int) < rkAt ms b) := decide_eq_decide.mpr (by omega)
        have d2 : decide ((k : Int) + 1 < rkAt ms b) = decide (((k + 1 : Nat) : Int) < rkAt ms b) := decide_eq_decide.mpr (by omega)
        rw [d1, d2]
        rfl
    · rintro σ Hc ⟨x6, x7, x8, x9, x10, rfl, e⟩
      have e03 := (e1.trans e2).trans e
      rw [hrl]
      have bd : Bd 90 := Bd.ofTop (top_small (by omega))
      dsimp only
      refine ret1 ?_
      refine ⟨_, rfl, _, rfl, (hd, ms, k, 90), rfl, hh.ex e03, ok, k10, bd, (by show (0 : Int) ≤ 90; omega), fun H4 e4 => ?_⟩
      refine ⟨_, rfl, _, rfl, (hd, ms, k, 90), rfl, hh.ex (e03.trans e4), ok, k10, bd, (by show (0 : Int) ≤ 90; omega), fun H5 e5 => ?_⟩
      refine ⟨by show 2 ≤ sizeLine; decide, fun q nq => ?_⟩
      refine ⟨_, rfl, _, rfl, by show 2 ≤ sizeLine; decide, fun q2 nq2 => ?_⟩
      refine use_eqInts [la ms 90 k, la ms 90 (k + 1)] [la ms 90 k, la ms 90 (k + 1)] (SqL.of ((Ex.new nq2) _ _ upd_same)) (SqL.of upd_same) ?_
      rw [decide_eq_true rfl]
      exact fin _ ((((e03.trans e4).trans e5).trans (Ex.new nq)).trans (Ex.new nq2))
end
end HR
namespace HR
open PySem L2
section
variable {P : Program} {w : World} {K : PySem.W.Frag} {mg : Str → Option Value} {base : Heap} {C : String → Addr}
theorem law_body (T : Txt K mg C) : ∀ (f : Addr) (cdv : Value) (A : Around) (outer : List Env) (s : Shared) (H : Hp) (E : XK) (a : Addr) (ns : List Int), A.guards = some [] → Room 9 (A.deeper (PyProof.Rows.envOfC "law" (C8.fnScope s_law) s.heap.objs.size f cdv)) → SqL K H a (ns.map V.int) → ns.length ≤ 63 →
    ∃ t, PSs (cxOf C8.CX0 P w K mg base N_law "law" (C8.fnScope s_law) f cdv A outer s H E).nox (C8.fnBody s_law) t ∧ t { nx := fun _ _ => V.non = V.bl true, rt := fun v _ => v = V.bl true } (L2.start N_law [.ref a]) H := by
  intro f cdv A outer s H E a ns hg hr hs hl
  refine ⟨_, (pss_cons (ps_set (i := 1) sc_law.nd rfl (.inl rfl) (C8.pe_c (C__law_spring T) hr (by omega) (by rfl) (pa_cons (pv 0) pa_nil)))
    (pss_cons (ps_for PassesOwn.never rfl (pi_range1 (by rfl) T.b_range (pa_cons (pe_op op_add pe_int (pe_callB (call_min2 rfl) (by rfl) T.b_min bt_min (pa_cons (pe_callB (klen K rfl) (by rfl) T.b_len bt_len (pa_cons (pv 0) pa_nil)) (pa_cons pe_int pa_nil)))) pa_nil)) (pg_name (i := 2) sc_law.nd rfl (.inl rfl)) (pss_cons (ps_set (i := 3) sc_law.nd rfl (.inl rfl) (C8.pe_c (C__law_hall T) hr (by omega) (by rfl) (pa_cons (pv 1) (pa_cons pe_int (pa_cons (pe_ix (kix_any K rfl) (pe_lst (pa_cons pe_int (pa_cons pe_int (pa_cons pe_int pa_nil)))) (C8.pe_c (C__law_draw T) hr (by omega) (by rfl) (pa_cons (pv 1) (pa_cons pe_int pa_nil))) (fun _ _ => rfl)) pa_nil)))))
    (pss_cons (ps_set (i := 4) sc_law.nd rfl (.inl rfl) (C8.pe_c (C__law_dressed T) hr (by omega) (by rfl) (pa_cons (pv 1) (pa_cons (pv 3) pa_nil))))
    (pss_cons (ps_set (i := 5) sc_law.nd rfl (.inl rfl) (pe_callB (krepr K rfl hg (hu64 hr)) (by rfl) T.b_repr bt_repr (pa_cons (pv 4) pa_nil)))
    (pss_cons (ps_for PassesOwn.never rfl (kpi_any K rfl (pe_op op_cat (pe_lst (pa_cons pe_int (pa_cons pe_int (pa_cons (pe_op op_add pe_int (C8.pe_c (C__law_draw T) hr (by omega) (by rfl) (pa_cons (pv 1) (pa_cons pe_int pa_nil)))) pa_nil)))) (pe_lc (own := [("_law_talker", 8)]) rfl sc_law.nd (kpi_any K rfl (pe_slice (ksl_list K rfl) (pv 3) po_none (po_some pe_int))) (blkOk_by (own := [("_law_talker", 8)]) (N := N_law) (sc := C8.fnScope s_law) (by decide +kernel)) (fun _ _ _ _ _ => (pg_name (i := 8) sc_law.nd rfl (.inl rfl))) (fun _ _ _ _ _ => pts_nil) (fun _ _ _ _ _ => (pe_ix (kix_any K rfl) (pv 8) pe_int (fun _ _ => rfl)))))) (pg_name (i := 6) sc_law.nd rfl (.inl rfl)) (pss_one (ps_if (PW.pt (pw_or (pt_not (pt_val (C8.pe_c (C__law_right T) hr (by omega) (by rfl) (pa_cons (pv 3) (pa_cons (pv 4) (pa_cons (pv 6) pa_nil)))))) (pw_or1 (pt_cmpR op_ne (pe_callB (krepr K rfl hg (hu64 hr)) (by rfl) T.b_repr bt_repr (pa_cons (pv 4) pa_nil)) (pv 5) (nomark _))))) (pss_one (ps_ret pe_bl)) pss_nil)))
    (pss_cons (ps_setLc (i := 7) (own := [("_law_name", 9), ("_law_rank", 6), ("_law_prefix", 10), ("_law_cycle", 11)]) rfl sc_law.nd rfl rfl (sw_true rfl rfl rfl (by decide +kernel)) (kpi_any K rfl (pv 3)) (blkOk_by (own := [("_law_name", 9), ("_law_rank", 6), ("_law_prefix", 10), ("_law_cycle", 11)]) (N := N_law) (sc := C8.fnScope s_law) (by decide +kernel)) (fun _ _ _ _ _ => (kpg_any K rfl (n := 4) (pgs_cons (pg_name (i := 9) sc_law.nd rfl (.inl rfl)) (pgs_cons (pg_name (i := 6) sc_law.nd rfl (.inl rfl)) (pgs_cons (pg_name (i := 10) sc_law.nd rfl (.inl rfl)) (pgs_cons (pg_name (i := 11) sc_law.nd rfl (.inl rfl)) pgs_nil)))))) (fun _ _ _ _ _ => pts_nil) (fun _ _ _ _ _ => (pe_lst (pa_cons (pv 9) (pa_cons (pv 6) (pa_cons (pe_callTy (klist K rfl) (by rfl) T.b_list bt_list (pa_cons (pv 10) pa_nil)) (pa_cons (pe_callTy (klist K rfl) (by rfl) T.b_list bt_list (pa_cons (pv 11) pa_nil)) pa_nil)))))))
    (pss_one (ps_while PassesOwn.never (pt_cmpR (kneD K rfl (hu64 hr)) (pv 7) (pe_lst pa_nil) (nomark _)) (pss_cons (ps_expr (kbm K rfl PySem.F.plainAttrs_list PySem.F.slot_list_append PySem.F.type_list_append mt_append (pe_ix (kix_any K rfl) (pe_ix (kix_any K rfl) (pv 7) pe_int (fun _ _ => rfl)) pe_int (fun _ _ => rfl)) (pa_cons (pe_tup (pa_cons pe_int (pa_cons pe_int pa_nil))) pa_nil)))
    (pss_cons (ps_asg (pe_slice (ksl_list K rfl) (pe_ix (kix_any K rfl) (pe_ix (kix_any K rfl) (pv 7) pe_int (fun _ _ => rfl)) pe_int (fun _ _ => rfl)) (po_some (pe_un un_neg pe_int)) po_none) (pg_sub (pe_ix (kix_any K rfl) (pv 7) pe_int (fun _ _ => rfl)) pe_int set_list))
    (pss_cons (ps_if (pt_not (pt_val (C8.pe_c (C__law_right T) hr (by omega) (by rfl) (pa_cons (pv 7) (pa_cons (pv 7) (pa_cons (pe_ix (kix_any K rfl) (pe_ix (kix_any K rfl) (pv 7) pe_int (fun _ _ => rfl)) pe_int (fun _ _ => rfl)) pa_nil)))))) (pss_one (ps_ret pe_bl)) pss_nil)
    (pss_one (ps_expr (kbm0 K rfl PySem.F.plainAttrs_list PySem.F.slot_list_pop PySem.F.type_list_pop mt_pop (pv 7)))))))))))))))
    (pss_one (ps_ret pe_bl)))), ?_⟩
  refine ⟨_, rfl, (a, ns), rfl, hs, hl, fun sp H1 nsp e1 hsp => ?_⟩
  dsimp only [gName]
  have stay : ∀ {G Hc Hd : Hp}, Ex G Hc → G sp = none → ExM [sp] Hc Hd → Ex G Hd := fun h1 h2 e a o q => e a o (fun z => by rw [List.mem_singleton.mp z, h2] at q; cases q) (h1 a o q)
  have na : ∀ {Hc : Hp} {p : Addr} {b : Nat}, SpringAt Hc sp b → Hc p = none → p ∉ [sp] := fun h1 h2 z => h1.ne (by rw [List.mem_singleton.mp z] at h2; exact h2)
  refine ⟨_, rfl, a, _, rfl, .inl (Evl.ex_l e1 hs), _, _, rfl, _, _, rfl, rfl, _, rfl, by omega, by rw [List.length_map]; omega, ?_⟩
  refine for_range (lo := 0) (n := (2 + (if (4 : Int) < ((ns.map V.int).length : Int) then 4 else ((ns.map V.int).length : Int))).toNat) (fun i σ Hc => ∃ x2 x3 x4 x5 x6 x7 x8 x9 x10 x11 : Option V, σ = [some (.ref a), some (.ref sp), x2, x3, x4, x5, x6, x7, x8, x9, x10, x11] ∧ SpringAt Hc sp (3000 * (6 - i))) ?_ ?_ ?_
  · exact ⟨_, _, _, _, _, _, _, _, _, _, rfl, hsp.less (by decide)⟩
  · clear hsp e1
    rintro i σ Hc hi ⟨x2, x3, x4, x5, x6, x7, x8, x9, x10, x11, rfl, hsp⟩
    have i6 : i < 6 := by omega
    -- a hall
    refine ⟨_, rfl, by show 3 ≤ sizeLine; decide, fun p np => ⟨_, rfl, use_draw (3000 * (6 - i) - 1) ((SpringAt.upd hsp (na hsp np)).less (by omega)) (by decide) (top_small (by decide)) fun j H2 e2 sp2 j0 j1 => ?_⟩⟩
    obtain ⟨mx, hmx, hat⟩ := at_ints [2, 4, 9] j j0 j1
    have mxb : 1 ≤ mx ∧ mx ≤ 9 := by
      rcases List.mem_cons.mp hmx with z | hmx
      · omega
      rcases List.mem_cons.mp hmx with z | hmx
      · omega
      have := List.mem_singleton.mp hmx
      omega
    refine ⟨p, _, j, _, rfl, rfl, Sq.l (e2 _ _ (na hsp np) upd_same), hat, ?_⟩
    refine use_hall (n := 10) (S := fun _ => none) (3000 * (6 - i) - 2001) (fun a o q => nomatch q) rfl (sp2.less (by omega)) (Nat.le_refl _) mxb.1 (by omega) fun v ms H3 e3 sp3 hv ok hl10 hin => ?_
    have G1 : Ex (ext (fun _ => none) H2 H3) H3 := fun a o q => by
      by_cases z : H2 a = none
      · rw [ext_new z] at q; exact q
      · rw [show ext (fun _ => none) H2 H3 a = none from if_neg z] at q; cases q
    have n1 : ext (fun _ => none) H2 H3 sp = none := if_neg sp2.ne
    generalize ext (fun _ => none) H2 H3 = E1 at hv G1 n1
    dsimp only [gName]
    -- dressed
    refine ⟨_, rfl, _, rfl, use_dressed (3000 * (6 - i) - 2700) (by have := trHall_depth ms; omega) (by have := trHall_size ok; omega) G1 n1 (sp3.less (by have := trHall_size ok; omega)) hv.any.tr fun v4 H4 e4 sp4 tr4 => ?_⟩
    have G2 : Ex (ext E1 H3 H4) H4 := fun a o q => by
      by_cases z : H3 a = none
      · rw [ext_new z] at q; exact q
      · rw [show ext E1 H3 H4 a = E1 a from if_neg z] at q; exact stay G1 n1 e4 a o q
    have n2 : ext E1 H3 H4 sp = none := by rw [show ext E1 H3 H4 sp = E1 sp from if_neg sp3.ne]; exact n1
    have G12 : Ex E1 (ext E1 H3 H4) := ext_up G1
    generalize ext E1 H3 H4 = E2 at tr4 G2 n2 G12
    replace hv := hv.ex G12
    clear G1 n1 G12 e4 e3 e2 np hat sp2 sp3
    have hh := tr4.hall
    obtain ⟨ah, hxs, rfl, hxl, hxp⟩ := hv
    obtain ⟨ad, dxs, rfl, _, _⟩ := id hh
    obtain ⟨z, hz⟩ := tr4.shows (trHall_fine ok) (by have := trHall_depth ms; omega) (by have := trHall_size ok; omega)
    dsimp only [gName]
    refine asg1 (show_val rfl (hz.ex G2) ?_)
    dsimp only [gName]
    -- the ranks
    refine ⟨_, rfl, use_draw (3000 * (6 - i) - 2701) (sp4.less (by omega)) (by decide) (top_small (by decide)) fun d H5 e5 sp5 d0 d1 => ⟨_, _, rfl, rfl, by show 3 ≤ sizeLine; decide, fun p5 np5 => ?_⟩⟩
    have G5 : Ex E2 (upd H5 p5 (.lst [.int 1, .int 10, .int (1 + d)])) := (stay G2 n2 e5).trans (Ex.new np5)
    have sp5' := SpringAt.upd (o := .lst [.int 1, .int 10, .int (1 + d)]) sp5 (na sp5 np5)
    have hp5 : (upd H5 p5 (.lst [.int 1, .int 10, .int (1 + d)])) p5 = some (.lst [.int 1, .int 10, .int (1 + d)]) := upd_same
    generalize upd H5 p5 (.lst [.int 1, .int 10, .int (1 + d)]) = H6 at G5 sp5' hp5 ⊢
    clear e5 sp5 np5 sp4 G2
    have hxlen := Paired.len hxp
    have tk2 : PySem.Paired (fun x m => TkAt K E2 x m) (hxs.take 2) (ms.take 2) := Paired.take 2 hxp
    refine lcVN (as := ms.take 2) (xs := hxs.take 2) (fun x m => TkAt K E2 x m) (fun _ => true) (fun m => .int m.rank) (fun Q' q => ?_) tk2 (by rw [List.length_take]; omega) ?_ ?_
    · refine ⟨_, rfl, 2, rfl, ah, hxs, rfl, Evl.ex_l G5 hxl, fun p np => ?_⟩
      exact q p _ np (Ex.new np) (by rw [upd_same, show (2 : Int) = ((2 : Nat) : Int) from rfl, cutHi])
    · intro j x b H' e hx hb hR Ct Cn c1 _
      obtain ⟨ta, p1, p2, rfl, htk, _, _⟩ := hR
      exact ⟨rfl, _, rfl, ta, _, 1, _, rfl, rfl, htk.ex (G5.trans e), rfl, c1 rfl _ (Ex.refl _)⟩
    · intro D7 H7 hD7 e7 hd7
      rw [filter_true] at hd7
      refine ⟨p5, D7, _, _, rfl, rfl, e7 _ _ hp5, hd7, by simp only [List.length_map, List.length_take, List.length_cons, List.length_nil]; unfold sizeLine; omega, fun p8 np8 => ?_⟩
      have rks : [V.int 1, .int 10, .int (1 + d)] ++ (ms.take 2).map (fun m => V.int m.rank) = ([1, 10, 1 + d] ++ (ms.take 2).map fun m => m.rank).map V.int := by
        rw [List.map_append, List.map_map]; rfl
      rw [rks]
      have rin : ∀ r ∈ ([1, 10, 1 + d] ++ (ms.take 2).map fun m => m.rank), 1 ≤ r ∧ r ≤ 10 := fun r hr => by
        rcases List.mem_append.mp hr with hr | hr
        · rcases List.mem_cons.mp hr with z | hr
          · omega
          rcases List.mem_cons.mp hr with z | hr
          · omega
          have := List.mem_singleton.mp hr
          omega
        · obtain ⟨m, hm, rfl⟩ := List.mem_map.mp hr
          have f := ok.all m (List.mem_of_mem_take hm)
          exact ⟨f.lo, f.hi⟩
      generalize ([1, 10, 1 + d] ++ (ms.take 2).map fun m => m.rank) = rs0 at rin ⊢
      have G8 : Ex E2 (upd H7 p8 (.lst (rs0.map V.int))) := (G5.trans e7).trans (Ex.new np8)
      have sp8 := SpringAt.ex sp5' (e7.trans (Ex.new (o := .lst (rs0.map V.int)) np8))
      have hp8 : (upd H7 p8 (.lst (rs0.map V.int))) p8 = some (.lst (rs0.map V.int)) := upd_same
      generalize upd H7 p8 (.lst (rs0.map V.int)) = H8 at G8 sp8 hp8 ⊢
      clear e7 hd7 hD7 np8 hp5 sp5' G5 rks
      refine ⟨p8, rfl, .inl ⟨⟨_, SqL.of hp8⟩, for_list (xs := rs0.map V.int) (fun j σ Hc => ∃ x6 : Option V, σ = [some (.ref a), some (.ref sp), some (.int (0 + (i : Nat))), some (.ref ah), some (.ref ad), some (.str z), x6, x7, x8, x9, x10, x11] ∧ Ex H8 Hc) ?_ ?_ ?_ ?_⟩⟩
      · exact ⟨_, rfl, Ex.refl _⟩
      · rintro j σ Hc _ ⟨x6, rfl, e⟩
        exact SqL.of (e _ _ hp8)
      · rintro j x σ Hc hx ⟨x6, rfl, e⟩
        rw [List.getElem?_map] at hx
        obtain ⟨r, hr0, rfl⟩ := Option.map_eq_some_iff.mp hx
        have rb := rin r (List.mem_of_getElem? hr0)
        obtain ⟨k, rfl⟩ : ∃ k : Nat, r = (k : Int) + 1 := ⟨(r - 1).toNat, by omega⟩
        have G9 := G8.trans e
        dsimp only [gName]
        refine ⟨_, rfl, _, rfl, _, rfl, ⟨.ref ah, .ref ad, ms, k⟩, rfl, ⟨ah, hxs, rfl, Evl.ex_l G9 hxl, Paired.imp hxp fun _ _ q => q.ex G9⟩, hh.ex G9, ok, (show k < 10 by omega), fun H9 e9 => ⟨true, rfl, ?_⟩⟩
        refine iteF ?_
        refine show_val rfl (hz.ex (G9.trans e9)) ⟨_, rfl, rfl, _, rfl, ?_⟩
        rw [decide_eq_true rfl]
        exact iteF (next1 ⟨_, rfl, e.trans e9⟩)
      · rintro σ Hc ⟨x6, rfl, e⟩
        have G9 := G8.trans e
        have sp9 := SpringAt.ex sp8 e
        dsimp only
        clear e sp8 hp8 rin G8
        -- a copy that may change
        refine asg1 ?_
        refine ⟨_, rfl, ah, rfl, .inl ⟨⟨hxs, Evl.ex_l G9 hxl⟩, ?_⟩⟩
        intro D hD
        have t0 : Stm E2 Hc [] [] E2 Hc := Stm.start G9 fun l hl => nomatch hl
        have okk := ok
        refine lc_it (walk_list (K := K) (a := ah) (xs := hxs)) (fun u H' => (u = 0 ∧ ∃ Sc, Stm E2 Hc [] [D] Sc H' ∧ H' D = some (.lst [])) ∨ ∃ Sc a0 p0 c0 xs0 bs m rest, ms.take u = m :: rest ∧ Stm E2 Hc [] [D, a0, p0] Sc H' ∧ Held K Sc H' D a0 p0 c0 xs0 bs m rest)
          (.inl ⟨rfl, E2, t0.cell hD, upd_same⟩) ?_ ?_ ?_
        · rintro u H' _ (⟨_, Sc, t, _⟩ | ⟨Sc, a0, p0, c0, xs0, bs, m, rest, _, t, _⟩)
          · exact Evl.ex_l (t.sub.trans t.cur) hxl
          · exact Evl.ex_l (t.sub.trans t.cur) hxl
        · rintro j x H1 H1' hj inv ⟨rfl, hx⟩
          obtain ⟨m, hm, ta, p1, p2, rfl, htk, ⟨q1, xs1, rfl, s1, pr1⟩, ⟨q2, xs2, rfl, s2, pr2⟩⟩ := Paired.get _ hxp hx
          have G10 : Ex E2 H1' := by
            rcases inv with ⟨_, Sc, t, _⟩ | ⟨Sc, a0, p0, c0, xs0, bs, m, rest, _, t, _⟩
            · exact t.sub.trans t.cur
            · exact t.sub.trans t.cur
          refine ⟨ta, _, rfl, htk.ex G10, rfl, _, _, rfl, _, _, rfl, _, _, rfl, _, _, rfl, rfl, rfl, ?_⟩
          refine ⟨_, rfl, _, rfl, _, rfl, q1, _, rfl, s1.ex G10, fun l1 n1' => ⟨_, rfl, q2, _, rfl, s2.ex (G10.trans (Ex.new n1')), fun l2 n2' => ⟨by show 4 ≤ sizeLine; decide, fun l3 n3' => ?_⟩⟩⟩
          have l12 : l1 ≠ l2 := fun z => by rw [← z, upd_same] at n2'; cases n2'
          have l13 : l1 ≠ l3 := fun z => by rw [← z, upd_ne l12, upd_same] at n3'; cases n3'
          have l23 : l2 ≠ l3 := fun z => by rw [← z, upd_same] at n3'; cases n3'
          have old : ∀ {l : Addr}, H1' l ≠ none → l ≠ l1 ∧ l ≠ l2 ∧ l ≠ l3 := fun {l} h => by
            have e1 : l ≠ l1 := fun z => h (by rw [z]; exact n1')
            have e2 : l ≠ l2 := fun z => by rw [← z, upd_ne e1] at n2'; exact h n2'
            have e3 : l ≠ l3 := fun z => by rw [← z, upd_ne e2, upd_ne e1] at n3'; exact h n3'
            exact ⟨e1, e2, e3⟩
          have tsnoc : ms.take (j + 1) = ms.take j ++ [m] := by rw [List.take_add_one, hm]; rfl
          rcases inv with ⟨rfl, Sc, t, hd⟩ | ⟨Sc, a0, p0, c0, xs0, bs, m0, rest, htake, t, held⟩
          · obtain ⟨d1, d2, d3⟩ := old (l := D) (by rw [hd]; exact fun q => nomatch q)
            have hall0 : ∀ l ∈ [l1, D], (upd H1' l1 (.lst xs1)) l ≠ none := fun l hl => by
              rcases List.mem_cons.mp hl with e | hl
              · rw [e, upd_same]; exact fun q => nomatch q
              · rw [List.mem_singleton.mp hl, upd_ne d1, hd]; exact fun q => nomatch q
            have t1 := t.cell (o := .lst xs1) n1'
            have t2 := t1.lay (o := .lst xs2) n2' hall0
            have t3 := t2.cell (o := .lst [.str m.name, .int m.rank, .ref l1, .ref l2]) n3'
            have t4 := (t3.put (l := D) (o := .lst ([] ++ [V.ref l3])) (List.mem_cons_of_mem _ (List.mem_cons_of_mem _ List.mem_cons_self))).drop (L' := [D, l3, l1]) (fun l hl => by
              rcases List.mem_cons.mp hl with e | hl
              · rw [e]; exact List.mem_cons_of_mem _ (List.mem_cons_of_mem _ List.mem_cons_self)
              rcases List.mem_cons.mp hl with e | hl
              · rw [e]; exact List.mem_cons_self
              · rw [List.mem_singleton.mp hl]; exact List.mem_cons_of_mem _ List.mem_cons_self)
            refine ⟨[], by rw [upd_ne d3, upd_ne d2, upd_ne d1]; exact hd, by decide, .inr ⟨_, l3, l1, l2, xs1, [], m, [], tsnoc, t4, ⟨upd_same, by rw [upd_ne d3.symm, upd_same], by rw [upd_ne d1.symm, upd_ne l13, upd_ne l12, upd_same], Paired.imp pr1 fun _ _ q => q.ex t2.sub, ⟨l2, xs2, rfl, Sq.l upd_same, Paired.imp pr2 fun _ _ q => q.ex t2.sub⟩, .nil, d3, d1, l13.symm⟩⟩⟩
          · have all := held.all
            obtain ⟨d1, d2, d3⟩ := old (all D List.mem_cons_self)
            obtain ⟨e1, e2, e3⟩ := old (all a0 (List.mem_cons_of_mem _ List.mem_cons_self))
            obtain ⟨f1, f2, f3⟩ := old (all p0 (List.mem_cons_of_mem _ (List.mem_cons_of_mem _ List.mem_cons_self)))
            have all1 : ∀ l ∈ [D, a0, p0], (upd H1' l1 (.lst xs1)) l ≠ none := fun l hl => by rw [upd_ne (old (all l hl)).1]; exact all l hl
            have all2 : ∀ l ∈ [D, a0, p0], (upd (upd H1' l1 (.lst xs1)) l2 (.lst xs2)) l ≠ none := fun l hl => by rw [upd_ne (old (all l hl)).2.1]; exact all1 l hl
            have t1 := t.lay (o := .lst xs1) n1' all
            have t2 := t1.lay (o := .lst xs2) n2' all1
            have t3 := t2.lay (o := .lst [.str m.name, .int m.rank, .ref l1, .ref l2]) n3' all2
            have t4 := t3.put (l := D) (o := .lst ((.ref a0 :: bs) ++ [V.ref l3])) List.mem_cons_self
            have u3 : Ex Sc (upd (upd (upd Sc l1 (.lst xs1)) l2 (.lst xs2)) l3 (.lst [.str m.name, .int m.rank, .ref l1, .ref l2])) := ((Ex.new (t.cur.free n1')).trans (Ex.new (t1.cur.free n2'))).trans (Ex.new (t2.cur.free n3'))
            refine ⟨_, by rw [upd_ne d3, upd_ne d2, upd_ne d1]; exact held.top, ?_, .inr ⟨_, a0, p0, c0, xs0, bs ++ [.ref l3], m0, rest ++ [m], by rw [tsnoc, htake]; rfl, t4, ⟨upd_same, by rw [upd_ne held.da.symm, upd_ne e3, upd_ne e2, upd_ne e1]; exact held.cell, by rw [upd_ne held.dp.symm, upd_ne f3, upd_ne f2, upd_ne f1]; exact held.pre, Paired.imp held.prs fun _ _ q => q.ex u3, held.cyc.ex u3, ?_, held.da, held.dp, held.ap⟩⟩⟩
            · have h1 := Paired.len held.rst
              have h2 := congrArg List.length htake
              rw [List.length_take, List.length_cons] at h2
              rw [List.length_cons]
              have := ok.len
              unfold sizeLine
              omega
            · refine PySem.Paired.snoc (Paired.imp held.rst fun _ _ q => q.ex u3) ⟨l3, .ref l1, .ref l2, rfl, Sq.l upd_same, ⟨l1, xs1, rfl, Sq.l ?_, Paired.imp pr1 fun _ _ q => q.ex t3.sub⟩, ⟨l2, xs2, rfl, Sq.l ?_, Paired.imp pr2 fun _ _ q => q.ex t3.sub⟩⟩
              · rw [upd_ne l13, upd_ne l12, upd_same]
              · rw [upd_ne l23, upd_same]
        · rintro H1 inv
          dsimp only [gName]
          refine ⟨fun mm σ H' => ∃ x6 x8 x9 x10 x11 : Option V, σ = [some (.ref a), some (.ref sp), some (.int (0 + (i : Nat))), some (.ref ah), some (.ref ad), some (.str z), x6, some (.ref D), x8, x9, x10, x11] ∧
            ((mm = 0 ∧ ∃ Sc, Stm E2 Hc [] [D] Sc H' ∧ H' D = some (.lst [])) ∨ ∃ Sc a0 p0 c0 xs0 bs m rest, mm = rest.length + 1 ∧ HallOk (m :: rest) ∧ Stm E2 Hc [] [D, a0, p0] Sc H' ∧ Held K Sc H' D a0 p0 c0 xs0 bs m rest), ?_, ?_⟩
          · rcases inv with ⟨_, Sc, t, hd⟩ | ⟨Sc, a0, p0, c0, xs0, bs, m0, rest, htake, t, held⟩
            · exact ⟨0, _, _, _, _, _, rfl, .inl ⟨rfl, Sc, t, hd⟩⟩
            · rw [List.take_of_length_le (by omega)] at htake
              exact ⟨_, _, _, _, _, _, rfl, .inr ⟨Sc, a0, p0, c0, xs0, bs, m0, rest, rfl, by rw [← htake]; exact ok, t, held⟩⟩
          · clear inv H1
            rintro mm σ H1 ⟨y6, y8, y9, y10, y11, rfl, ⟨_, Sc, t, hd⟩ | ⟨Sc, a0, p0, c0, xs0, bs, m0, rest, rfl, ok0, t, held⟩⟩
            · refine ⟨_, rfl, Nat.zero_le _, fun e ne => use_neHall (ms := []) ⟨(fun m h => nomatch h), by decide, List.nodup_nil⟩ (SqL.of (Ex.new ne _ _ hd)) .nil upd_same ⟨_, rfl, iteF ?_⟩⟩
              exact ⟨_, _, _, _, _, _, _, _, _, _, rfl, (SpringAt.ex sp9 (t.keep.nil.trans (Ex.new ne))).less (by omega)⟩
            · refine ⟨_, rfl, Nat.zero_le _, fun e ne => ?_⟩
              have t2 := t.stepE held.all (Ex.new (o := .lst []) ne)
              have held2 := held.ex (Ex.new (o := .lst []) ne) (ext_up (H2 := upd H1 e (.lst [])) t.cur)
              obtain ⟨D', hx', eD, hl', hp'⟩ := held2.hall t2.cur
              cases eD
              refine use_neHall ok0 hl' hp' upd_same ⟨_, rfl, iteT ?_⟩
              clear hl' hp'
              generalize ext Sc H1 (upd H1 e (.lst [])) = Sc2 at t2 held2
              generalize upd H1 e (.lst []) = H2 at t2 held2 ⊢
              clear t held
              refine ⟨fun σ' H' => ∃ m', m' < rest.length + 1 ∧ ∃ x6 x8 x9 x10 x11 : Option V, σ' = [some (.ref a), some (.ref sp), some (.int (0 + (i : Nat))), some (.ref ah), some (.ref ad), some (.str z), x6, some (.ref D), x8, x9, x10, x11] ∧
                ((m' = 0 ∧ ∃ Sc, Stm E2 Hc [] [D] Sc H' ∧ H' D = some (.lst [])) ∨ ∃ Sc a0 p0 c0 xs0 bs m rest, m' = rest.length + 1 ∧ HallOk (m :: rest) ∧ Stm E2 Hc [] [D, a0, p0] Sc H' ∧ Held K Sc H' D a0 p0 c0 xs0 bs m rest), fun σ' H' h => h, ?_⟩
              have fine0 := ok0.all m0 List.mem_cons_self
              have plen := Paired.len held2.prs
              -- held[0][2].append((2, 3))
              refine ⟨_, rfl, D, _, 0, .ref a0, rfl, rfl, Sq.l held2.top, atI_nat (j := 0) rfl, a0, _, 2, .ref p0, rfl, rfl, Sq.l held2.cell, rfl, .inl ⟨rfl, _, SqL.of held2.pre⟩, by show 2 ≤ sizeLine; decide, fun q nq => ⟨p0, xs0, _, rfl, rfl, (Ex.new nq) _ _ held2.pre, by have := fine0.sc.lp; unfold sizeLine; omega, ?_⟩⟩
              have t3 := (t2.lay (o := .tup [.int 2, .int 3]) nq held2.all).put (l := p0) (o := .lst (xs0 ++ [.ref q])) (List.mem_cons_of_mem _ (List.mem_cons_of_mem _ List.mem_cons_self))
              have ln := fun l hl => (fun z => held2.all l hl (by rw [z]; exact nq) : l ≠ q)
              have u3 : Ex Sc2 (upd Sc2 q (.tup [.int 2, .int 3])) := Ex.new (t2.cur.free nq)
              have held3 : Held K (upd Sc2 q (.tup [.int 2, .int 3])) (upd (upd H2 q (.tup [.int 2, .int 3])) p0 (.lst (xs0 ++ [.ref q]))) D a0 p0 c0 (xs0 ++ [.ref q]) bs ⟨m0.name, m0.rank, ⟨m0.sch.pre ++ [(2, 3)], m0.sch.cyc⟩⟩ rest :=
                ⟨by rw [upd_ne held2.dp, upd_ne (ln D List.mem_cons_self)]; exact held2.top, by rw [upd_ne held2.ap, upd_ne (ln a0 (List.mem_cons_of_mem _ List.mem_cons_self))]; exact held2.cell, upd_same, PySem.Paired.snoc (Paired.imp held2.prs fun _ _ q => q.ex u3) ⟨q, rfl, Sq.t upd_same⟩, held2.cyc.ex u3, Paired.imp held2.rst fun _ _ q => q.ex u3, held2.da, held2.dp, held2.ap⟩
              generalize upd Sc2 q (.tup [.int 2, .int 3]) = Sc3 at t3 held3
              generalize upd (upd H2 q (.tup [.int 2, .int 3])) p0 (.lst (xs0 ++ [.ref q])) = H3 at t3 held3 ⊢
              clear u3 ln t2 held2
              dsimp only
              -- held[0][2] = held[0][2][-8:]
              refine ⟨_, rfl, D, _, 0, .ref a0, rfl, rfl, Sq.l held3.top, atI_nat (j := 0) rfl, a0, _, 2, .ref p0, rfl, rfl, Sq.l held3.cell, rfl, 8, rfl, _, rfl, p0, _, rfl, SqL.of held3.pre, fun p2 np2 => ?_⟩
              dsimp only
              rw [show (-8 : Int) = -((8 : Nat) : Int) from rfl, cutLast _ 8 (by decide)]
              have ln := fun l hl => (fun z => held3.all l hl (by rw [z]; exact np2) : l ≠ p2)
              have lD := ln D List.mem_cons_self
              have lA := ln a0 (List.mem_cons_of_mem _ List.mem_cons_self)
              have top4 : (upd H3 p2 (.lst ((xs0 ++ [V.ref q]).drop ((xs0 ++ [V.ref q]).length - 8)))) D = some (.lst (.ref a0 :: bs)) := by rw [upd_ne lD]; exact held3.top
              refine ⟨_, rfl, D, _, 0, .ref a0, rfl, rfl, Sq.l top4, atI_nat (j := 0) rfl, a0, _, 2, 2, rfl, rfl, by rw [upd_ne lA]; exact held3.cell, rfl, ?_⟩
              dsimp only [List.set]
              have t5 := ((t3.cell (o := .lst ((xs0 ++ [V.ref q]).drop ((xs0 ++ [V.ref q]).length - 8))) np2).put (l := a0) (o := .lst [.str m0.name, .int m0.rank, .ref p2, .ref c0]) (List.mem_cons_of_mem _ (List.mem_cons_of_mem _ List.mem_cons_self))).drop (L' := [D, a0, p2]) (fun l hl => by
                rcases List.mem_cons.mp hl with e | hl
                · rw [e]; exact List.mem_cons_of_mem _ List.mem_cons_self
                rcases List.mem_cons.mp hl with e | hl
                · rw [e]; exact List.mem_cons_of_mem _ (List.mem_cons_of_mem _ List.mem_cons_self)
                · rw [List.mem_singleton.mp hl]; exact List.mem_cons_self)
              have pl3 := Paired.len held3.prs
              have held5 : Held K Sc3 (upd (upd H3 p2 (.lst ((xs0 ++ [V.ref q]).drop ((xs0 ++ [V.ref q]).length - 8)))) a0 (.lst [.str m0.name, .int m0.rank, .ref p2, .ref c0])) D a0 p2 c0 ((xs0 ++ [V.ref q]).drop ((xs0 ++ [V.ref q]).length - 8)) bs ⟨m0.name, m0.rank, ⟨(m0.sch.pre ++ [((2 : Int), (3 : Int))]).drop ((xs0 ++ [V.ref q]).length - 8), m0.sch.cyc⟩⟩ rest :=
                ⟨by rw [upd_ne held3.da]; exact top4, upd_same, by rw [upd_ne (Ne.symm lA), upd_same], Paired.drop _ held3.prs, held3.cyc, held3.rst, held3.da, lD, lA⟩
              have fine5 : TkFine ⟨m0.name, m0.rank, ⟨(m0.sch.pre ++ [((2 : Int), (3 : Int))]).drop ((xs0 ++ [V.ref q]).length - 8), m0.sch.cyc⟩⟩ := by
                refine ⟨fine0.nm, fine0.lo, fine0.hi, ⟨fine0.sc.ne, ?_, fine0.sc.lc, fun u hu => ?_, fine0.sc.tc⟩⟩
                · have l1 := fine0.sc.lp
                  show ((m0.sch.pre ++ [((2 : Int), (3 : Int))]).drop ((xs0 ++ [V.ref q]).length - 8)).length ≤ 8
                  rw [List.length_drop]
                  have : (xs0 ++ [V.ref q]).length = (m0.sch.pre ++ [((2 : Int), (3 : Int))]).length := pl3
                  omega
                · rcases List.mem_append.mp (List.mem_of_mem_drop hu) with h | h
                  · exact fine0.sc.tp u h
                  · rw [List.mem_singleton.mp h]
                    exact ⟨by decide, by decide, by decide, by decide⟩
              have ok5 := hallOk_first (m' := ⟨m0.name, m0.rank, ⟨(m0.sch.pre ++ [((2 : Int), (3 : Int))]).drop ((xs0 ++ [V.ref q]).length - 8), m0.sch.cyc⟩⟩) ok0 rfl fine5
              have rk0 : 1 ≤ m0.rank ∧ m0.rank ≤ 10 := ⟨fine0.lo, fine0.hi⟩
              generalize hm5 : (⟨m0.name, m0.rank, ⟨(m0.sch.pre ++ [((2 : Int), (3 : Int))]).drop ((xs0 ++ [V.ref q]).length - 8), m0.sch.cyc⟩⟩ : Tk) = m5 at held5 ok5
              have rk5 : m5.rank = m0.rank := by rw [← hm5]
              generalize upd (upd H3 p2 (.lst ((xs0 ++ [V.ref q]).drop ((xs0 ++ [V.ref q]).length - 8)))) a0 (.lst [.str m0.name, .int m0.rank, .ref p2, .ref c0]) = H5 at t5 held5 ⊢
              clear hm5 top4 pl3 lD lA ln fine5 t3 held3
              obtain ⟨k, hk⟩ : ∃ k : Nat, m5.rank = (k : Int) + 1 := ⟨(m5.rank - 1).toNat, by omega⟩
              have hall5 := held5.hall t5.cur
              -- held[0][1]
              have cell5 := held5.cell
              rw [hk] at cell5
              refine ⟨_, rfl, _, rfl, _, rfl, D, _, 0, .ref a0, rfl, rfl, Sq.l held5.top, atI_nat (j := 0) rfl, a0, _, 1, _, rfl, rfl, Sq.l cell5, rfl, ⟨.ref D, .ref D, m5 :: rest, k⟩, rfl, hall5, hall5.any, ok5, (show k < 10 by omega), fun H6 e6 => ⟨true, rfl, iteF (next1 ?_)⟩⟩
              have t6 := t5.stepE held5.all e6
              have held6 := held5.ex e6 (ext_up (H2 := H6) t5.cur)
              generalize ext Sc3 H5 H6 = Sc6 at t6 held6
              clear t5 held5 hall5 e6 cell5
              dsimp only
              -- held.pop()
              have hb := Paired.len held6.rst
              refine ⟨_, rfl, .inl ⟨rfl, _, SqL.of held6.top⟩, D, _, _, rfl, rfl, held6.top, List.getElem?_eq_getElem (by simp), ?_⟩
              have t7 := t6.put (l := D) (o := .lst (V.ref a0 :: bs).dropLast) List.mem_cons_self
              cases bs with
              | nil =>
                refine ⟨0, by omega, _, _, _, _, _, rfl, .inl ⟨rfl, _, t7.drop (fun l hl => by rw [List.mem_singleton.mp hl]; exact List.mem_cons_self), upd_same⟩⟩
              | cons b bs =>
                cases rest with
                | nil => simp at hb
                | cons u us =>
                  refine ⟨(u :: us).dropLast.length + 1, by simp, _, _, _, _, _, rfl, .inr ⟨_, a0, p2, c0, _, (b :: bs).dropLast, m5, (u :: us).dropLast, rfl, hallOk_sub ok5 (List.Sublist.cons_cons _ (List.dropLast_sublist _)), t7, ⟨upd_same, by rw [upd_ne held6.da.symm]; exact held6.cell, by rw [upd_ne held6.dp.symm]; exact held6.pre, held6.prs, held6.cyc, Paired.dropLast held6.rst, held6.da, held6.dp, held6.ap⟩⟩⟩
  · rintro σ Hc ⟨x2, x3, x4, x5, x6, x7, x8, x9, x10, x11, rfl, hsp⟩
    exact rfl
end
end HR
namespace HR
open PySem L2 PyProof.Rows
def clsAt (C1 C2 : Addr) (s : String) : Addr := if s = "Schedule" then C1 else if s = "Member" then C2 else 0
theorem clsAt_Schedule {C1 C2 : Addr} : clsAt C1 C2 "Schedule" = C1 := rfl
theorem clsAt_Member {C1 C2 : Addr} : clsAt C1 C2 "Member" = C2 := rfl
theorem txt_mk {K : PySem.W.Frag} {h : Heap} {mg : Str → Option Value} {C1 C2 : Addr}
    {t_LETTERS : Tok}
    {t_MAX_NAME : Tok}
    {t_MAX_TIME : Tok}
    {t_MAX_RANK : Tok}
    {t_MAX_TALKS : Tok}
    {t_MAX_TALKERS : Tok}
    {f1 : Addr} {od1 an1 : Option Addr} {sl1 : Array (Option Value)} {oc1 kV1 dc1 pm1 cd1 ct1 : Value}
    {T1 : Addr} {odT1 : Option Addr} {ocT1 : Value} {dT1 : Data} {slT1 : Array (Option Value)} {mT1 : Nat}
    {f2 : Addr} {od2 an2 : Option Addr} {sl2 : Array (Option Value)} {oc2 kV2 dc2 pm2 cd2 ct2 : Value}
    {f3 : Addr} {od3 an3 : Option Addr} {sl3 : Array (Option Value)} {oc3 kV3 dc3 pm3 cd3 ct3 : Value}
    {f4 : Addr} {od4 an4 : Option Addr} {sl4 : Array (Option Value)} {oc4 kV4 dc4 pm4 cd4 ct4 : Value}
    {f5 : Addr} {od5 an5 : Option Addr} {sl5 : Array (Option Value)} {oc5 kV5 dc5 pm5 cd5 ct5 : Value}
    {f6 : Addr} {od6 an6 : Option Addr} {sl6 : Array (Option Value)} {oc6 kV6 dc6 pm6 cd6 ct6 : Value}
    {f7 : Addr} {od7 an7 : Option Addr} {sl7 : Array (Option Value)} {oc7 kV7 dc7 pm7 cd7 ct7 : Value}
    {f8 : Addr} {od8 an8 : Option Addr} {sl8 : Array (Option Value)} {oc8 kV8 dc8 pm8 cd8 ct8 : Value}
    {f9 : Addr} {od9 an9 : Option Addr} {sl9 : Array (Option Value)} {oc9 kV9 dc9 pm9 cd9 ct9 : Value}
    {f10 : Addr} {od10 an10 : Option Addr} {sl10 : Array (Option Value)} {oc10 kV10 dc10 pm10 cd10 ct10 : Value}
    {f11 : Addr} {od11 an11 : Option Addr} {sl11 : Array (Option Value)} {oc11 kV11 dc11 pm11 cd11 ct11 : Value}
    {f12 : Addr} {od12 an12 : Option Addr} {sl12 : Array (Option Value)} {oc12 kV12 dc12 pm12 cd12 ct12 : Value}
    {f13 : Addr} {od13 an13 : Option Addr} {sl13 : Array (Option Value)} {oc13 kV13 dc13 pm13 cd13 ct13 : Value}
    {f14 : Addr} {od14 an14 : Option Addr} {sl14 : Array (Option Value)} {oc14 kV14 dc14 pm14 cd14 ct14 : Value}
    {f15 : Addr} {od15 an15 : Option Addr} {sl15 : Array (Option Value)} {oc15 kV15 dc15 pm15 cd15 ct15 : Value}
    {f16 : Addr} {od16 an16 : Option Addr} {sl16 : Array (Option Value)} {oc16 kV16 dc16 pm16 cd16 ct16 : Value}
    {f17 : Addr} {od17 an17 : Option Addr} {sl17 : Array (Option Value)} {oc17 kV17 dc17 pm17 cd17 ct17 : Value}
    {f18 : Addr} {od18 an18 : Option Addr} {sl18 : Array (Option Value)} {oc18 kV18 dc18 pm18 cd18 ct18 : Value}
    {f19 : Addr} {od19 an19 : Option Addr} {sl19 : Array (Option Value)} {oc19 kV19 dc19 pm19 cd19 ct19 : Value}
    {f20 : Addr} {od20 an20 : Option Addr} {sl20 : Array (Option Value)} {oc20 kV20 dc20 pm20 cd20 ct20 : Value}
    {f21 : Addr} {od21 an21 : Option Addr} {sl21 : Array (Option Value)} {oc21 kV21 dc21 pm21 cd21 ct21 : Value}
    {f22 : Addr} {od22 an22 : Option Addr} {sl22 : Array (Option Value)} {oc22 kV22 dc22 pm22 cd22 ct22 : Value}
    {f23 : Addr} {od23 an23 : Option Addr} {sl23 : Array (Option Value)} {oc23 kV23 dc23 pm23 cd23 ct23 : Value}
    {f24 : Addr} {od24 an24 : Option Addr} {sl24 : Array (Option Value)} {oc24 kV24 dc24 pm24 cd24 ct24 : Value}
    {f25 : Addr} {od25 an25 : Option Addr} {sl25 : Array (Option Value)} {oc25 kV25 dc25 pm25 cd25 ct25 : Value}
    {f26 : Addr} {od26 an26 : Option Addr} {sl26 : Array (Option Value)} {oc26 kV26 dc26 pm26 cd26 ct26 : Value}
    {f27 : Addr} {od27 an27 : Option Addr} {sl27 : Array (Option Value)} {oc27 kV27 dc27 pm27 cd27 ct27 : Value}
    {f28 : Addr} {od28 an28 : Option Addr} {sl28 : Array (Option Value)} {oc28 kV28 dc28 pm28 cd28 ct28 : Value}
    {f29 : Addr} {od29 an29 : Option Addr} {sl29 : Array (Option Value)} {oc29 kV29 dc29 pm29 cd29 ct29 : Value}
    {f30 : Addr} {od30 an30 : Option Addr} {sl30 : Array (Option Value)} {oc30 kV30 dc30 pm30 cd30 ct30 : Value}
    {f31 : Addr} {od31 an31 : Option Addr} {sl31 : Array (Option Value)} {oc31 kV31 dc31 pm31 cd31 ct31 : Value}
    {f32 : Addr} {od32 an32 : Option Addr} {sl32 : Array (Option Value)} {oc32 kV32 dc32 pm32 cd32 ct32 : Value} (X : K.In h) (G : h.Ns mainGlobals mg)
    (aC_Schedule : PySem.W.nsIn K mainGlobals "Schedule" = some (some (.ref C1)))
    (aC_Member : PySem.W.nsIn K mainGlobals "Member" = some (some (.ref C2)))
    (b_ValueError : PySem.W.nsIn K mainGlobals "ValueError" = some none)
    (b_abs : PySem.W.nsIn K mainGlobals "abs" = some none)
    (b_all : PySem.W.nsIn K mainGlobals "all" = some none)
    (b_bool : PySem.W.nsIn K mainGlobals "bool" = some none)
    (b_dict : PySem.W.nsIn K mainGlobals "dict" = some none)
    (b_divmod : PySem.W.nsIn K mainGlobals "divmod" = some none)
    (b_enumerate : PySem.W.nsIn K mainGlobals "enumerate" = some none)
    (b_int : PySem.W.nsIn K mainGlobals "int" = some none)
    (b_isinstance : PySem.W.nsIn K mainGlobals "isinstance" = some none)
    (b_len : PySem.W.nsIn K mainGlobals "len" = some none)
    (b_list : PySem.W.nsIn K mainGlobals "list" = some none)
    (b_min : PySem.W.nsIn K mainGlobals "min" = some none)
    (b_range : PySem.W.nsIn K mainGlobals "range" = some none)
    (b_repr : PySem.W.nsIn K mainGlobals "repr" = some none)
    (b_set : PySem.W.nsIn K mainGlobals "set" = some none)
    (b_sorted : PySem.W.nsIn K mainGlobals "sorted" = some none)
    (b_str : PySem.W.nsIn K mainGlobals "str" = some none)
    (b_sum : PySem.W.nsIn K mainGlobals "sum" = some none)
    (b_tuple : PySem.W.nsIn K mainGlobals "tuple" = some none)
    (k_LETTERS : PySem.W.nsIn K mainGlobals "LETTERS" = some (some (.str "abcdefghijklmnopqrstuvwxyz" t_LETTERS)))
    (k_MAX_NAME : PySem.W.nsIn K mainGlobals "MAX_NAME" = some (some (.int (8) t_MAX_NAME)))
    (k_MAX_TIME : PySem.W.nsIn K mainGlobals "MAX_TIME" = some (some (.int (1000000000000000000000000000000) t_MAX_TIME)))
    (k_MAX_RANK : PySem.W.nsIn K mainGlobals "MAX_RANK" = some (some (.int (10) t_MAX_RANK)))
    (k_MAX_TALKS : PySem.W.nsIn K mainGlobals "MAX_TALKS" = some (some (.int (8) t_MAX_TALKS)))
    (k_MAX_TALKERS : PySem.W.nsIn K mainGlobals "MAX_TALKERS" = some (some (.int (10) t_MAX_TALKERS)))
    (a1 : PySem.W.nsIn K mainGlobals "is_integer" = some (some (.ref f1)))
    (l1 : K.lookup f1 = some ⟨oc1, od1, .func (PySem.W.fnOf "is_integer" "is_integer" (C8.fnArgs s_is_integer) (C8.fnBody s_is_integer) (C8.fnScope s_is_integer) (.ref T1) kV1 dc1 pm1 an1 cd1 ct1), sl1⟩)
    (c1 : PySem.W.codeIn K cd1 "is_integer" = true)
    (k1 : PySem.W.keepIn K (.ref f1) = true)
    (lT1 : K.lookup T1 = some ⟨ocT1, odT1, dT1, slT1⟩)
    (eT1 : dT1 = .seq (List.toArray [Value.none]) mT1)
    (a2 : PySem.W.nsIn K mainGlobals "is_sequence" = some (some (.ref f2)))
    (l2 : K.lookup f2 = some ⟨oc2, od2, .func (PySem.W.fnOf "is_sequence" "is_sequence" (C8.fnArgs s_is_sequence) (C8.fnBody s_is_sequence) (C8.fnScope s_is_sequence) .none kV2 dc2 pm2 an2 cd2 ct2), sl2⟩)
    (c2 : PySem.W.codeIn K cd2 "is_sequence" = true)
    (k2 : PySem.W.keepIn K (.ref f2) = true)
    (a3 : PySem.W.nsIn K mainGlobals "is_name" = some (some (.ref f3)))
    (l3 : K.lookup f3 = some ⟨oc3, od3, .func (PySem.W.fnOf "is_name" "is_name" (C8.fnArgs s_is_name) (C8.fnBody s_is_name) (C8.fnScope s_is_name) .none kV3 dc3 pm3 an3 cd3 ct3), sl3⟩)
    (c3 : PySem.W.codeIn K cd3 "is_name" = true)
    (k3 : PySem.W.keepIn K (.ref f3) = true)
    (a4 : PySem.W.nsIn K mainGlobals "is_talk" = some (some (.ref f4)))
    (l4 : K.lookup f4 = some ⟨oc4, od4, .func (PySem.W.fnOf "is_talk" "is_talk" (C8.fnArgs s_is_talk) (C8.fnBody s_is_talk) (C8.fnScope s_is_talk) .none kV4 dc4 pm4 an4 cd4 ct4), sl4⟩)
    (c4 : PySem.W.codeIn K cd4 "is_talk" = true)
    (k4 : PySem.W.keepIn K (.ref f4) = true)
    (a5 : PySem.W.nsIn K mainGlobals "are_talks" = some (some (.ref f5)))
    (l5 : K.lookup f5 = some ⟨oc5, od5, .func (PySem.W.fnOf "are_talks" "are_talks" (C8.fnArgs s_are_talks) (C8.fnBody s_are_talks) (C8.fnScope s_are_talks) .none kV5 dc5 pm5 an5 cd5 ct5), sl5⟩)
    (c5 : PySem.W.codeIn K cd5 "are_talks" = true)
    (k5 : PySem.W.keepIn K (.ref f5) = true)
    (a6 : PySem.W.nsIn K mainGlobals "is_talker" = some (some (.ref f6)))
    (l6 : K.lookup f6 = some ⟨oc6, od6, .func (PySem.W.fnOf "is_talker" "is_talker" (C8.fnArgs s_is_talker) (C8.fnBody s_is_talker) (C8.fnScope s_is_talker) .none kV6 dc6 pm6 an6 cd6 ct6), sl6⟩)
    (c6 : PySem.W.codeIn K cd6 "is_talker" = true)
    (k6 : PySem.W.keepIn K (.ref f6) = true)
    (a7 : PySem.W.nsIn K mainGlobals "is_hall" = some (some (.ref f7)))
    (l7 : K.lookup f7 = some ⟨oc7, od7, .func (PySem.W.fnOf "is_hall" "is_hall" (C8.fnArgs s_is_hall) (C8.fnBody s_is_hall) (C8.fnScope s_is_hall) .none kV7 dc7 pm7 an7 cd7 ct7), sl7⟩)
    (c7 : PySem.W.codeIn K cd7 "is_hall" = true)
    (k7 : PySem.W.keepIn K (.ref f7) = true)
    (a8 : PySem.W.nsIn K mainGlobals "running_sums" = some (some (.ref f8)))
    (l8 : K.lookup f8 = some ⟨oc8, od8, .func (PySem.W.fnOf "running_sums" "running_sums" (C8.fnArgs s_running_sums) (C8.fnBody s_running_sums) (C8.fnScope s_running_sums) .none kV8 dc8 pm8 an8 cd8 ct8), sl8⟩)
    (c8 : PySem.W.codeIn K cd8 "running_sums" = true)
    (k8 : PySem.W.keepIn K (.ref f8) = true)
    (a9 : PySem.W.findIn K (.ref C1) "__init__" = some (some (.ref f9)))
    (i9 : PySem.W.isFn K (.ref f9) = true)
    (l9 : K.lookup f9 = some ⟨oc9, od9, .func (PySem.W.fnOf "__init__" "Schedule.__init__" (C8.fnArgs s_Schedule___init__) (C8.fnBody s_Schedule___init__) (C8.fnScope s_Schedule___init__) .none kV9 dc9 pm9 an9 cd9 ct9), sl9⟩)
    (c9 : PySem.W.codeIn K cd9 "Schedule.__init__" = true)
    (mk_Schedule : PySem.W.makesIn K C1 = true)
    (kc_Schedule : PySem.W.keepIn K (.ref C1) = true)
    (a10 : PySem.W.findIn K (.ref C1) "sum_of_first" = some (some (.ref f10)))
    (i10 : PySem.W.isFn K (.ref f10) = true)
    (l10 : K.lookup f10 = some ⟨oc10, od10, .func (PySem.W.fnOf "sum_of_first" "Schedule.sum_of_first" (C8.fnArgs s_Schedule_sum_of_first) (C8.fnBody s_Schedule_sum_of_first) (C8.fnScope s_Schedule_sum_of_first) .none kV10 dc10 pm10 an10 cd10 ct10), sl10⟩)
    (c10 : PySem.W.codeIn K cd10 "Schedule.sum_of_first" = true)
    (k10 : PySem.W.keepIn K (.ref f10) = true)
    (a11 : PySem.W.findIn K (.ref C1) "count_ready" = some (some (.ref f11)))
    (i11 : PySem.W.isFn K (.ref f11) = true)
    (l11 : K.lookup f11 = some ⟨oc11, od11, .func (PySem.W.fnOf "count_ready" "Schedule.count_ready" (C8.fnArgs s_Schedule_count_ready) (C8.fnBody s_Schedule_count_ready) (C8.fnScope s_Schedule_count_ready) .none kV11 dc11 pm11 an11 cd11 ct11), sl11⟩)
    (c11 : PySem.W.codeIn K cd11 "Schedule.count_ready" = true)
    (k11 : PySem.W.keepIn K (.ref f11) = true)
    (a12 : PySem.W.findIn K (.ref C1) "length_ready" = some (some (.ref f12)))
    (i12 : PySem.W.isFn K (.ref f12) = true)
    (l12 : K.lookup f12 = some ⟨oc12, od12, .func (PySem.W.fnOf "length_ready" "Schedule.length_ready" (C8.fnArgs s_Schedule_length_ready) (C8.fnBody s_Schedule_length_ready) (C8.fnScope s_Schedule_length_ready) .none kV12 dc12 pm12 an12 cd12 ct12), sl12⟩)
    (c12 : PySem.W.codeIn K cd12 "Schedule.length_ready" = true)
    (k12 : PySem.W.keepIn K (.ref f12) = true)
    (a13 : PySem.W.findIn K (.ref C2) "__init__" = some (some (.ref f13)))
    (i13 : PySem.W.isFn K (.ref f13) = true)
    (l13 : K.lookup f13 = some ⟨oc13, od13, .func (PySem.W.fnOf "__init__" "Member.__init__" (C8.fnArgs s_Member___init__) (C8.fnBody s_Member___init__) (C8.fnScope s_Member___init__) .none kV13 dc13 pm13 an13 cd13 ct13), sl13⟩)
    (c13 : PySem.W.codeIn K cd13 "Member.__init__" = true)
    (mk_Member : PySem.W.makesIn K C2 = true)
    (kc_Member : PySem.W.keepIn K (.ref C2) = true)
    (a14 : PySem.W.nsIn K mainGlobals "checked_hall" = some (some (.ref f14)))
    (l14 : K.lookup f14 = some ⟨oc14, od14, .func (PySem.W.fnOf "checked_hall" "checked_hall" (C8.fnArgs s_checked_hall) (C8.fnBody s_checked_hall) (C8.fnScope s_checked_hall) .none kV14 dc14 pm14 an14 cd14 ct14), sl14⟩)
    (c14 : PySem.W.codeIn K cd14 "checked_hall" = true)
    (k14 : PySem.W.keepIn K (.ref f14) = true)
    (a15 : PySem.W.nsIn K mainGlobals "check_rank" = some (some (.ref f15)))
    (l15 : K.lookup f15 = some ⟨oc15, od15, .func (PySem.W.fnOf "check_rank" "check_rank" (C8.fnArgs s_check_rank) (C8.fnBody s_check_rank) (C8.fnScope s_check_rank) .none kV15 dc15 pm15 an15 cd15 ct15), sl15⟩)
    (c15 : PySem.W.codeIn K cd15 "check_rank" = true)
    (k15 : PySem.W.keepIn K (.ref f15) = true)
    (a16 : PySem.W.nsIn K mainGlobals "check_tick" = some (some (.ref f16)))
    (l16 : K.lookup f16 = some ⟨oc16, od16, .func (PySem.W.fnOf "check_tick" "check_tick" (C8.fnArgs s_check_tick) (C8.fnBody s_check_tick) (C8.fnScope s_check_tick) .none kV16 dc16 pm16 an16 cd16 ct16), sl16⟩)
    (c16 : PySem.W.codeIn K cd16 "check_tick" = true)
    (k16 : PySem.W.keepIn K (.ref f16) = true)
    (a17 : PySem.W.nsIn K mainGlobals "rank_length" = some (some (.ref f17)))
    (l17 : K.lookup f17 = some ⟨oc17, od17, .func (PySem.W.fnOf "rank_length" "rank_length" (C8.fnArgs s_rank_length) (C8.fnBody s_rank_length) (C8.fnScope s_rank_length) .none kV17 dc17 pm17 an17 cd17 ct17), sl17⟩)
    (c17 : PySem.W.codeIn K cd17 "rank_length" = true)
    (k17 : PySem.W.keepIn K (.ref f17) = true)
    (a18 : PySem.W.nsIn K mainGlobals "left_index" = some (some (.ref f18)))
    (l18 : K.lookup f18 = some ⟨oc18, od18, .func (PySem.W.fnOf "left_index" "left_index" (C8.fnArgs s_left_index) (C8.fnBody s_left_index) (C8.fnScope s_left_index) .none kV18 dc18 pm18 an18 cd18 ct18), sl18⟩)
    (c18 : PySem.W.codeIn K cd18 "left_index" = true)
    (k18 : PySem.W.keepIn K (.ref f18) = true)
    (a19 : PySem.W.nsIn K mainGlobals "quiet_among" = some (some (.ref f19)))
    (l19 : K.lookup f19 = some ⟨oc19, od19, .func (PySem.W.fnOf "quiet_among" "quiet_among" (C8.fnArgs s_quiet_among) (C8.fnBody s_quiet_among) (C8.fnScope s_quiet_among) .none kV19 dc19 pm19 an19 cd19 ct19), sl19⟩)
    (c19 : PySem.W.codeIn K cd19 "quiet_among" = true)
    (k19 : PySem.W.keepIn K (.ref f19) = true)
    (a20 : PySem.W.nsIn K mainGlobals "left_among" = some (some (.ref f20)))
    (l20 : K.lookup f20 = some ⟨oc20, od20, .func (PySem.W.fnOf "left_among" "left_among" (C8.fnArgs s_left_among) (C8.fnBody s_left_among) (C8.fnScope s_left_among) .none kV20 dc20 pm20 an20 cd20 ct20), sl20⟩)
    (c20 : PySem.W.codeIn K cd20 "left_among" = true)
    (k20 : PySem.W.keepIn K (.ref f20) = true)
    (a21 : PySem.W.nsIn K mainGlobals "checked" = some (some (.ref f21)))
    (l21 : K.lookup f21 = some ⟨oc21, od21, .func (PySem.W.fnOf "checked" "checked" (C8.fnArgs s_checked) (C8.fnBody s_checked) (C8.fnScope s_checked) .none kV21 dc21 pm21 an21 cd21 ct21), sl21⟩)
    (c21 : PySem.W.codeIn K cd21 "checked" = true)
    (k21 : PySem.W.keepIn K (.ref f21) = true)
    (a22 : PySem.W.nsIn K mainGlobals "left_before" = some (some (.ref f22)))
    (l22 : K.lookup f22 = some ⟨oc22, od22, .func (PySem.W.fnOf "left_before" "left_before" (C8.fnArgs s_left_before) (C8.fnBody s_left_before) (C8.fnScope s_left_before) .none kV22 dc22 pm22 an22 cd22 ct22), sl22⟩)
    (c22 : PySem.W.codeIn K cd22 "left_before" = true)
    (k22 : PySem.W.keepIn K (.ref f22) = true)
    (a23 : PySem.W.nsIn K mainGlobals "quiet_before" = some (some (.ref f23)))
    (l23 : K.lookup f23 = some ⟨oc23, od23, .func (PySem.W.fnOf "quiet_before" "quiet_before" (C8.fnArgs s_quiet_before) (C8.fnBody s_quiet_before) (C8.fnScope s_quiet_before) .none kV23 dc23 pm23 an23 cd23 ct23), sl23⟩)
    (c23 : PySem.W.codeIn K cd23 "quiet_before" = true)
    (k23 : PySem.W.keepIn K (.ref f23) = true)
    (a24 : PySem.W.nsIn K mainGlobals "_law_spring" = some (some (.ref f24)))
    (l24 : K.lookup f24 = some ⟨oc24, od24, .func (PySem.W.fnOf "_law_spring" "_law_spring" (C8.fnArgs s__law_spring) (C8.fnBody s__law_spring) (C8.fnScope s__law_spring) .none kV24 dc24 pm24 an24 cd24 ct24), sl24⟩)
    (c24 : PySem.W.codeIn K cd24 "_law_spring" = true)
    (k24 : PySem.W.keepIn K (.ref f24) = true)
    (a25 : PySem.W.nsIn K mainGlobals "_law_draw" = some (some (.ref f25)))
    (l25 : K.lookup f25 = some ⟨oc25, od25, .func (PySem.W.fnOf "_law_draw" "_law_draw" (C8.fnArgs s__law_draw) (C8.fnBody s__law_draw) (C8.fnScope s__law_draw) .none kV25 dc25 pm25 an25 cd25 ct25), sl25⟩)
    (c25 : PySem.W.codeIn K cd25 "_law_draw" = true)
    (k25 : PySem.W.keepIn K (.ref f25) = true)
    (a26 : PySem.W.nsIn K mainGlobals "_law_talks" = some (some (.ref f26)))
    (l26 : K.lookup f26 = some ⟨oc26, od26, .func (PySem.W.fnOf "_law_talks" "_law_talks" (C8.fnArgs s__law_talks) (C8.fnBody s__law_talks) (C8.fnScope s__law_talks) .none kV26 dc26 pm26 an26 cd26 ct26), sl26⟩)
    (c26 : PySem.W.codeIn K cd26 "_law_talks" = true)
    (k26 : PySem.W.keepIn K (.ref f26) = true)
    (a27 : PySem.W.nsIn K mainGlobals "_law_hall" = some (some (.ref f27)))
    (l27 : K.lookup f27 = some ⟨oc27, od27, .func (PySem.W.fnOf "_law_hall" "_law_hall" (C8.fnArgs s__law_hall) (C8.fnBody s__law_hall) (C8.fnScope s__law_hall) .none kV27 dc27 pm27 an27 cd27 ct27), sl27⟩)
    (c27 : PySem.W.codeIn K cd27 "_law_hall" = true)
    (k27 : PySem.W.keepIn K (.ref f27) = true)
    (a28 : PySem.W.nsIn K mainGlobals "_law_dressed" = some (some (.ref f28)))
    (l28 : K.lookup f28 = some ⟨oc28, od28, .func (PySem.W.fnOf "_law_dressed" "_law_dressed" (C8.fnArgs s__law_dressed) (C8.fnBody s__law_dressed) (C8.fnScope s__law_dressed) .none kV28 dc28 pm28 an28 cd28 ct28), sl28⟩)
    (c28 : PySem.W.codeIn K cd28 "_law_dressed" = true)
    (k28 : PySem.W.keepIn K (.ref f28) = true)
    (a29 : PySem.W.nsIn K mainGlobals "_law_nth" = some (some (.ref f29)))
    (l29 : K.lookup f29 = some ⟨oc29, od29, .func (PySem.W.fnOf "_law_nth" "_law_nth" (C8.fnArgs s__law_nth) (C8.fnBody s__law_nth) (C8.fnScope s__law_nth) .none kV29 dc29 pm29 an29 cd29 ct29), sl29⟩)
    (c29 : PySem.W.codeIn K cd29 "_law_nth" = true)
    (k29 : PySem.W.keepIn K (.ref f29) = true)
    (a30 : PySem.W.nsIn K mainGlobals "_law_run" = some (some (.ref f30)))
    (l30 : K.lookup f30 = some ⟨oc30, od30, .func (PySem.W.fnOf "_law_run" "_law_run" (C8.fnArgs s__law_run) (C8.fnBody s__law_run) (C8.fnScope s__law_run) .none kV30 dc30 pm30 an30 cd30 ct30), sl30⟩)
    (c30 : PySem.W.codeIn K cd30 "_law_run" = true)
    (k30 : PySem.W.keepIn K (.ref f30) = true)
    (a31 : PySem.W.nsIn K mainGlobals "_law_right" = some (some (.ref f31)))
    (l31 : K.lookup f31 = some ⟨oc31, od31, .func (PySem.W.fnOf "_law_right" "_law_right" (C8.fnArgs s__law_right) (C8.fnBody s__law_right) (C8.fnScope s__law_right) .none kV31 dc31 pm31 an31 cd31 ct31), sl31⟩)
    (c31 : PySem.W.codeIn K cd31 "_law_right" = true)
    (k31 : PySem.W.keepIn K (.ref f31) = true)
    (pg_Schedule : PySem.W.plainGet K C1 Str.empty = true)
    (hd_Schedule : PySem.W.hasDictIn K C1 = true)
    (po_Schedule : PySem.W.plainOver K C1 = true)
    (sa_Schedule : PySem.W.findIn K (.ref C1) "__setattr__" = some (some (.builtin "object.__setattr__")))
    (pg_Member : PySem.W.plainGet K C2 Str.empty = true)
    (hd_Member : PySem.W.hasDictIn K C2 = true)
    (po_Member : PySem.W.plainOver K C2 = true)
    (sa_Member : PySem.W.findIn K (.ref C2) "__setattr__" = some (some (.builtin "object.__setattr__")))
    (n_Schedule_prefix : PySem.W.findIn K (.ref C1) "prefix" = some none)
    (n_Schedule_cycle : PySem.W.findIn K (.ref C1) "cycle" = some none)
    (n_Schedule_prefix_silences : PySem.W.findIn K (.ref C1) "prefix_silences" = some none)
    (n_Schedule_prefix_lengths : PySem.W.findIn K (.ref C1) "prefix_lengths" = some none)
    (n_Schedule_cycle_silences : PySem.W.findIn K (.ref C1) "cycle_silences" = some none)
    (n_Schedule_cycle_lengths : PySem.W.findIn K (.ref C1) "cycle_lengths" = some none)
    (n_Member_name : PySem.W.findIn K (.ref C2) "name" = some none)
    (n_Member_rank : PySem.W.findIn K (.ref C2) "rank" = some none)
    (n_Member_schedule : PySem.W.findIn K (.ref C2) "schedule" = some none)
    (a32 : PySem.W.nsIn K mainGlobals "law" = some (some (.ref f32)))
    (l32 : K.lookup f32 = some ⟨oc32, od32, .func (PySem.W.fnOf "law" "law" (C8.fnArgs s_law) (C8.fnBody s_law) (C8.fnScope s_law) .none kV32 dc32 pm32 an32 cd32 ct32), sl32⟩)
    (c32 : PySem.W.codeIn K cd32 "law" = true)
    (k32 : PySem.W.keepIn K (.ref f32) = true) :
    Txt K mg (clsAt C1 C2) ∧ DefE K mg "law" s_law ["_law_script"] :=
  ⟨{ b_ValueError := PySem.W.mg_none_of X G b_ValueError,
     b_abs := PySem.W.mg_none_of X G b_abs,
     b_all := PySem.W.mg_none_of X G b_all,
     b_bool := PySem.W.mg_none_of X G b_bool,
     b_dict := PySem.W.mg_none_of X G b_dict,
     b_divmod := PySem.W.mg_none_of X G b_divmod,
     b_enumerate := PySem.W.mg_none_of X G b_enumerate,
     b_int := PySem.W.mg_none_of X G b_int,
     b_isinstance := PySem.W.mg_none_of X G b_isinstance,
     b_len := PySem.W.mg_none_of X G b_len,
     b_list := PySem.W.mg_none_of X G b_list,
     b_min := PySem.W.mg_none_of X G b_min,
     b_range := PySem.W.mg_none_of X G b_range,
     b_repr := PySem.W.mg_none_of X G b_repr,
     b_set := PySem.W.mg_none_of X G b_set,
     b_sorted := PySem.W.mg_none_of X G b_sorted,
     b_str := PySem.W.mg_none_of X G b_str,
     b_sum := PySem.W.mg_none_of X G b_sum,
     b_tuple := PySem.W.mg_none_of X G b_tuple,
     k_LETTERS := str_mk X G k_LETTERS,
     k_MAX_NAME := int_mk X G k_MAX_NAME (by decide +kernel),
     k_MAX_TIME := int_mk X G k_MAX_TIME (by decide +kernel),
     k_MAX_RANK := int_mk X G k_MAX_RANK (by decide +kernel),
     k_MAX_TALKS := int_mk X G k_MAX_TALKS (by decide +kernel),
     k_MAX_TALKERS := int_mk X G k_MAX_TALKERS (by decide +kernel),
     f_is_integer := defD_mk X G (its := [.none]) (n := 2) (by simp) rfl (.cons (show L2.RelV .non .none from rfl) (.nil)) (fun T kV doc pm an cdv ct us its l1 l2 => match us, its, l1, l2 with | [_, _], [_], _, _ => ⟨_, rfl, rfl⟩) (fun T kV doc pm an cdv ct us its l1 l2 => match us, its, l1, l2 with | [_, _, _], [_], _, _ => ⟨_, rfl, rfl⟩) a1 l1 c1 k1 lT1 eT1,
     f_is_sequence := defE_mk X G (fun _ _ _ _ _ _ us hl => match us, hl with | [_], _ => rfl) a2 l2 c2 k2,
     f_is_name := defE_mk X G (fun _ _ _ _ _ _ us hl => match us, hl with | [_], _ => rfl) a3 l3 c3 k3,
     f_is_talk := defE_mk X G (fun _ _ _ _ _ _ us hl => match us, hl with | [_], _ => rfl) a4 l4 c4 k4,
     f_are_talks := defE_mk X G (fun _ _ _ _ _ _ us hl => match us, hl with | [_, _], _ => rfl) a5 l5 c5 k5,
     f_is_talker := defE_mk X G (fun _ _ _ _ _ _ us hl => match us, hl with | [_], _ => rfl) a6 l6 c6 k6,
     f_is_hall := defE_mk X G (fun _ _ _ _ _ _ us hl => match us, hl with | [_], _ => rfl) a7 l7 c7 k7,
     f_running_sums := defE_mk X G (fun _ _ _ _ _ _ us hl => match us, hl with | [_], _ => rfl) a8 l8 c8 k8,
     i_Schedule := by rw [clsAt_Schedule]; exact makE_mk X G (fun _ _ _ _ _ _ us hl => match us, hl with | [_, _, _], _ => rfl) aC_Schedule mk_Schedule kc_Schedule a9 i9 l9 c9,
     m_Schedule_sum_of_first := by rw [clsAt_Schedule]; exact methE_mk (fun _ _ _ _ _ _ us hl => match us, hl with | [_, _, _, _], _ => rfl) a10 i10 l10 c10 k10,
     m_Schedule_count_ready := by rw [clsAt_Schedule]; exact methE_mk (fun _ _ _ _ _ _ us hl => match us, hl with | [_, _], _ => rfl) a11 i11 l11 c11 k11,
     m_Schedule_length_ready := by rw [clsAt_Schedule]; exact methE_mk (fun _ _ _ _ _ _ us hl => match us, hl with | [_, _], _ => rfl) a12 i12 l12 c12 k12,
     i_Member := by rw [clsAt_Member]; exact makE_mk X G (fun _ _ _ _ _ _ us hl => match us, hl with | [_, _], _ => rfl) aC_Member mk_Member kc_Member a13 i13 l13 c13,
     f_checked_hall := defE_mk X G (fun _ _ _ _ _ _ us hl => match us, hl with | [_], _ => rfl) a14 l14 c14 k14,
     f_check_rank := defE_mk X G (fun _ _ _ _ _ _ us hl => match us, hl with | [_], _ => rfl) a15 l15 c15 k15,
     f_check_tick := defE_mk X G (fun _ _ _ _ _ _ us hl => match us, hl with | [_], _ => rfl) a16 l16 c16 k16,
     f_rank_length := defE_mk X G (fun _ _ _ _ _ _ us hl => match us, hl with | [_, _, _], _ => rfl) a17 l17 c17 k17,
     f_left_index := defE_mk X G (fun _ _ _ _ _ _ us hl => match us, hl with | [_, _, _], _ => rfl) a18 l18 c18 k18,
     f_quiet_among := defE_mk X G (fun _ _ _ _ _ _ us hl => match us, hl with | [_, _, _], _ => rfl) a19 l19 c19 k19,
     f_left_among := defE_mk X G (fun _ _ _ _ _ _ us hl => match us, hl with | [_, _, _], _ => rfl) a20 l20 c20 k20,
     f_checked := defE_mk X G (fun _ _ _ _ _ _ us hl => match us, hl with | [_, _], _ => rfl) a21 l21 c21 k21,
     f_left_before := defE_mk X G (fun _ _ _ _ _ _ us hl => match us, hl with | [_, _, _], _ => rfl) a22 l22 c22 k22,
     f_quiet_before := defE_mk X G (fun _ _ _ _ _ _ us hl => match us, hl with | [_, _, _], _ => rfl) a23 l23 c23 k23,
     f__law_spring := defE_mk X G (fun _ _ _ _ _ _ us hl => match us, hl with | [_], _ => rfl) a24 l24 c24 k24,
     f__law_draw := defE_mk X G (fun _ _ _ _ _ _ us hl => match us, hl with | [_, _], _ => rfl) a25 l25 c25 k25,
     f__law_talks := defE_mk X G (fun _ _ _ _ _ _ us hl => match us, hl with | [_, _, _, _], _ => rfl) a26 l26 c26 k26,
     f__law_hall := defE_mk X G (fun _ _ _ _ _ _ us hl => match us, hl with | [_, _, _], _ => rfl) a27 l27 c27 k27,
     f__law_dressed := defE_mk X G (fun _ _ _ _ _ _ us hl => match us, hl with | [_, _], _ => rfl) a28 l28 c28 k28,
     f__law_nth := defE_mk X G (fun _ _ _ _ _ _ us hl => match us, hl with | [_, _], _ => rfl) a29 l29 c29 k29,
     f__law_run := defE_mk X G (fun _ _ _ _ _ _ us hl => match us, hl with | [_, _], _ => rfl) a30 l30 c30 k30,
     f__law_right := defE_mk X G (fun _ _ _ _ _ _ us hl => match us, hl with | [_, _, _], _ => rfl) a31 l31 c31 k31,
     c_Schedule := by rw [clsAt_Schedule]; exact ⟨pg_Schedule, hd_Schedule, po_Schedule, sa_Schedule⟩,
     c_Member := by rw [clsAt_Member]; exact ⟨pg_Member, hd_Member, po_Member, sa_Member⟩,
     n_Schedule_prefix := by rw [clsAt_Schedule]; exact n_Schedule_prefix,
     n_Schedule_cycle := by rw [clsAt_Schedule]; exact n_Schedule_cycle,
     n_Schedule_prefix_silences := by rw [clsAt_Schedule]; exact n_Schedule_prefix_silences,
     n_Schedule_prefix_lengths := by rw [clsAt_Schedule]; exact n_Schedule_prefix_lengths,
     n_Schedule_cycle_silences := by rw [clsAt_Schedule]; exact n_Schedule_cycle_silences,
     n_Schedule_cycle_lengths := by rw [clsAt_Schedule]; exact n_Schedule_cycle_lengths,
     n_Member_name := by rw [clsAt_Member]; exact n_Member_name,
     n_Member_rank := by rw [clsAt_Member]; exact n_Member_rank,
     n_Member_schedule := by rw [clsAt_Member]; exact n_Member_schedule }, defE_mk X G (fun _ _ _ _ _ _ us hl => match us, hl with | [_], _ => rfl) a32 l32 c32 k32⟩
theorem law_end {l : PySem.W.OpenLaw} {q : Program} {loose : List Str} {XP : (Str → Option Value) → Heap → Prop} {YP : World → Heap → Prop} {d : DefRec} {K : PySem.Params → PySem.W.Frag} {C : String → Addr}
    (hq : d.name = "law") (hn : l.most = some 63) (hdf : d.params.defaults = []) (hY : ∀ (w : World) (h : Heap), YP w h → (K w.params).In h)
    (F : ∀ (w : World) (mg : Str → Option Value) (h : Heap), (K w.params).In h → h.Ns mainGlobals mg → Txt (K w.params) mg C ∧ DefE (K w.params) mg "law" s_law ["_law_script"]) :
    PySem.W.WalkO q loose XP YP l.row.toRowW d [] (fun f vs => PySem.call f vs) :=
  walk_ofG (x := "_law_script") (k := 9) hq hn (by decide) hdf ⟨rfl, by decide, by decide⟩ hY sc_law (fun w mg h a b => (F w mg h a b).2) fun w mg base a b => law_body (F w mg base a b).1
end HR
open PySem PySem.W PyProof.Rows
set_option maxRecDepth 100000 in
set_option maxHeartbeats 0 in
theorem PySem.Challenge.cw_hushranks_k09_ticks_left_and_quiet_holds : PySem.Challenge.rw_hushranks_k09_ticks_left_and_quiet.Holds := by
  w_on; o_law; k_head; (case hw => w_witness2)
  k_fill
  refine' HR.law_end (l := PySem.Challenge.rw_hushranks_k09_ticks_left_and_quiet) (C := HR.clsAt _ _) rfl rfl rfl (fun w h Y => PySem.W.kIn_of Y) ?F
  case F =>
    intro w mg h KX G
    refine' HR.txt_mk KX G ?aC_Schedule ?aC_Member ?b_ValueError ?b_abs ?b_all ?b_bool ?b_dict ?b_divmod ?b_enumerate ?b_int ?b_isinstance ?b_len ?b_list ?b_min ?b_range ?b_repr ?b_set ?b_sorted ?b_str ?b_sum ?b_tuple ?k_LETTERS ?k_MAX_NAME ?k_MAX_TIME ?k_MAX_RANK ?k_MAX_TALKS ?k_MAX_TALKERS ?a1 ?l1 ?c1 ?k1 ?lT1 ?eT1 ?a2 ?l2 ?c2 ?k2 ?a3 ?l3 ?c3 ?k3 ?a4 ?l4 ?c4 ?k4 ?a5 ?l5 ?c5 ?k5 ?a6 ?l6 ?c6 ?k6 ?a7 ?l7 ?c7 ?k7 ?a8 ?l8 ?c8 ?k8 ?a9 ?i9 ?l9 ?c9 ?mk_Schedule ?kc_Schedule ?a10 ?i10 ?l10 ?c10 ?k10 ?a11 ?i11 ?l11 ?c11 ?k11 ?a12 ?i12 ?l12 ?c12 ?k12 ?a13 ?i13 ?l13 ?c13 ?mk_Member ?kc_Member ?a14 ?l14 ?c14 ?k14 ?a15 ?l15 ?c15 ?k15 ?a16 ?l16 ?c16 ?k16 ?a17 ?l17 ?c17 ?k17 ?a18 ?l18 ?c18 ?k18 ?a19 ?l19 ?c19 ?k19 ?a20 ?l20 ?c20 ?k20 ?a21 ?l21 ?c21 ?k21 ?a22 ?l22 ?c22 ?k22 ?a23 ?l23 ?c23 ?k23 ?a24 ?l24 ?c24 ?k24 ?a25 ?l25 ?c25 ?k25 ?a26 ?l26 ?c26 ?k26 ?a27 ?l27 ?c27 ?k27 ?a28 ?l28 ?c28 ?k28 ?a29 ?l29 ?c29 ?k29 ?a30 ?l30 ?c30 ?k30 ?a31 ?l31 ?c31 ?k31 ?pg_Schedule ?hd_Schedule ?po_Schedule ?sa_Schedule ?pg_Member ?hd_Member ?po_Member ?sa_Member ?n_Schedule_prefix ?n_Schedule_cycle ?n_Schedule_prefix_silences ?n_Schedule_prefix_lengths ?n_Schedule_cycle_silences ?n_Schedule_cycle_lengths ?n_Member_name ?n_Member_rank ?n_Member_schedule ?a32 ?l32 ?c32 ?k32
    (case aC_Schedule => k_is)
    (case aC_Member => k_is)
    (case b_ValueError => k_is)
    (case b_abs => k_is)
    (case b_all => k_is)
    (case b_bool => k_is)
    (case b_dict => k_is)
    (case b_divmod => k_is)
    (case b_enumerate => k_is)
    (case b_int => k_is)
    (case b_isinstance => k_is)
    (case b_len => k_is)
    (case b_list => k_is)
    (case b_min => k_is)
    (case b_range => k_is)
    (case b_repr => k_is)
    (case b_set => k_is)
    (case b_sorted => k_is)
    (case b_str => k_is)
    (case b_sum => k_is)
    (case b_tuple => k_is)
    (case k_LETTERS => k_is)
    (case k_MAX_NAME => k_is)
    (case k_MAX_TIME => k_is)
    (case k_MAX_RANK => k_is)
    (case k_MAX_TALKS => k_is)
    (case k_MAX_TALKERS => k_is)
    (case a1 => k_is)
    (case l1 => k_is)
    (case c1 => k_is)
    (case k1 => k_is)
    (case lT1 => k_is)
    (case eT1 => rfl)
    (case a2 => k_is)
    (case l2 => k_is)
    (case c2 => k_is)
    (case k2 => k_is)
    (case a3 => k_is)
    (case l3 => k_is)
    (case c3 => k_is)
    (case k3 => k_is)
    (case a4 => k_is)
    (case l4 => k_is)
    (case c4 => k_is)
    (case k4 => k_is)
    (case a5 => k_is)
    (case l5 => k_is)
    (case c5 => k_is)
    (case k5 => k_is)
    (case a6 => k_is)
    (case l6 => k_is)
    (case c6 => k_is)
    (case k6 => k_is)
    (case a7 => k_is)
    (case l7 => k_is)
    (case c7 => k_is)
    (case k7 => k_is)
    (case a8 => k_is)
    (case l8 => k_is)
    (case c8 => k_is)
    (case k8 => k_is)
    (case a9 => k_is)
    (case i9 => k_is)
    (case l9 => k_is)
    (case c9 => k_is)
    (case mk_Schedule => k_is)
    (case kc_Schedule => k_is)
    (case a10 => k_is)
    (case i10 => k_is)
    (case l10 => k_is)
    (case c10 => k_is)
    (case k10 => k_is)
    (case a11 => k_is)
    (case i11 => k_is)
    (case l11 => k_is)
    (case c11 => k_is)
    (case k11 => k_is)
    (case a12 => k_is)
    (case i12 => k_is)
    (case l12 => k_is)
    (case c12 => k_is)
    (case k12 => k_is)
    (case a13 => k_is)
    (case i13 => k_is)
    (case l13 => k_is)
    (case c13 => k_is)
    (case mk_Member => k_is)
    (case kc_Member => k_is)
    (case a14 => k_is)
    (case l14 => k_is)
    (case c14 => k_is)
    (case k14 => k_is)
    (case a15 => k_is)
    (case l15 => k_is)
    (case c15 => k_is)
    (case k15 => k_is)
    (case a16 => k_is)
    (case l16 => k_is)
    (case c16 => k_is)
    (case k16 => k_is)
    (case a17 => k_is)
    (case l17 => k_is)
    (case c17 => k_is)
    (case k17 => k_is)
    (case a18 => k_is)
    (case l18 => k_is)
    (case c18 => k_is)
    (case k18 => k_is)
    (case a19 => k_is)
    (case l19 => k_is)
    (case c19 => k_is)
    (case k19 => k_is)
    (case a20 => k_is)
    (case l20 => k_is)
    (case c20 => k_is)
    (case k20 => k_is)
    (case a21 => k_is)
    (case l21 => k_is)
    (case c21 => k_is)
    (case k21 => k_is)
    (case a22 => k_is)
    (case l22 => k_is)
    (case c22 => k_is)
    (case k22 => k_is)
    (case a23 => k_is)
    (case l23 => k_is)
    (case c23 => k_is)
    (case k23 => k_is)
    (case a24 => k_is)
    (case l24 => k_is)
    (case c24 => k_is)
    (case k24 => k_is)
    (case a25 => k_is)
    (case l25 => k_is)
    (case c25 => k_is)
    (case k25 => k_is)
    (case a26 => k_is)
    (case l26 => k_is)
    (case c26 => k_is)
    (case k26 => k_is)
    (case a27 => k_is)
    (case l27 => k_is)
    (case c27 => k_is)
    (case k27 => k_is)
    (case a28 => k_is)
    (case l28 => k_is)
    (case c28 => k_is)
    (case k28 => k_is)
    (case a29 => k_is)
    (case l29 => k_is)
    (case c29 => k_is)
    (case k29 => k_is)
    (case a30 => k_is)
    (case l30 => k_is)
    (case c30 => k_is)
    (case k30 => k_is)
    (case a31 => k_is)
    (case l31 => k_is)
    (case c31 => k_is)
    (case k31 => k_is)
    (case pg_Schedule => k_is)
    (case hd_Schedule => k_is)
    (case po_Schedule => k_is)
    (case sa_Schedule => k_is)
    (case pg_Member => k_is)
    (case hd_Member => k_is)
    (case po_Member => k_is)
    (case sa_Member => k_is)
    (case n_Schedule_prefix => k_is)
    (case n_Schedule_cycle => k_is)
    (case n_Schedule_prefix_silences => k_is)
    (case n_Schedule_prefix_lengths => k_is)
    (case n_Schedule_cycle_silences => k_is)
    (case n_Schedule_cycle_lengths => k_is)
    (case n_Member_name => k_is)
    (case n_Member_rank => k_is)
    (case n_Member_schedule => k_is)
    (case a32 => k_is)
    (case l32 => k_is)
    (case c32 => k_is)
    (case k32 => k_is)
