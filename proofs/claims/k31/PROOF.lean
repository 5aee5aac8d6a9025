import PyProof.Rows.All
import Wide.All
import OpenK.AllK
import Wide.FinOn
import HandS.ForMost
import HandS.IsInst
import HandS.Defaults
import HandS.Conv
import HandS.Walk
import HandS.WideBits
import HandS.SortInts
import HandS.DictComp
import HandS.HeadHook1
import HandS.HeadHook2
import KE.KStateDown
import HandS.Head0
import HandS.Head1
import HandS.Head2
import HandS.HeadEnd
import HandS.HeadHook4
import KE.GoesMore
import KE.GoesEnum
import HandS.SetFor
import HandS.More
import HandS.Strs
import HandS.OwnEq
import KE.KeyNested
import KE.KDictKeyed
import KE.KEqDeep
import HandS.TupLe
import PySem.Challenge.RW_usecounts_k31_whole_kinds_that_stands_ha
set_option Elab.async false
set_option linter.all false
set_option maxRecDepth 100000
set_option maxHeartbeats 4000000
/-! Short words of this proof: promises by a global's name, targets and stores with their places, data by the abstract heap. -/
namespace UC
open PySem PySem.Spec PyProof.Rows L2
/-- a def that is a global of the module and keeps a promise at a level -/
structure Pr (P : Program) (w : World) (K : PySem.W.Frag) (mg : Str → Option Value) (base : Heap) (k : Nat) (x : Str) (ps : List Str) (sp : Sp) : Prop where
  ex : ∃ (f : Addr) (fd : FuncData), FnOk P w K mg base CX0 k f fd ps sp ∧ mg x = some (.ref f) ∧ PySem.W.keepIn K (.ref f) = true ∧ Binds K fd ps []
theorem Pr.mono {P : Program} {w : World} {K : PySem.W.Frag} {mg : Str → Option Value} {base : Heap} {j k : Nat} {x : Str} {ps : List Str} {sp : Sp} (G : Pr P w K mg base j x ps sp) (h : j ≤ k) : Pr P w K mg base k x ps sp := by
  obtain ⟨f, fd, F, a, b, c⟩ := G.ex
  exact ⟨f, fd, F.mono h, a, b, c⟩
section
variable {X : Cx} {x : Str} {p pos : Pos} {e : Expr} {es : List Expr} {t : TA} {ps : List Str} {sp : Sp} {j k : Nat}
theorem pe_callP (G : Pr X.prog X.w X.K X.mg X.base j x ps sp) (hr : Room k X.A) (hj : j ≤ k) (ha : PA X (e :: es) t) (hg : Gl X x := by rfl)
    (hdb : (x == ("__debug__" : Str)) = false := by decide) (he : starEach (e :: es) X.env = (false, eval e X.env) :: starEach es X.env := by rfl) (hpl : (backTo pos (starEach es X.env)).any (·.1) = false := by rfl) :
    PE X (.Call (.Name x p) (e :: es) [] pos) (tCall sp [] E0 t) := by
  refine ⟨fun pins s σ H Q I h => ?_⟩
  obtain ⟨f, fd, F, hm, hk, hb⟩ := G.ex
  exact (pe_call F (hr.mono hj) hg hm hk hb .nil pass0 ha hdb he hpl).run pins s σ H Q I h
theorem ps_s (i : Nat) {pos' : Pos} {te : TE} (hN : X.N.Nodup) (he : PE X e te) (hi : X.N[i]? = some x := by rfl) (hx : Loc X.env.scope x := by first | exact Or.inl rfl | exact Or.inr rfl)
    (hs : swapsWith e (some (.Name x pos')) pos.line X.env = pure false := by rfl) (hf : X.fn x = true ∨ X.env.scope.names.lookup x = some .local := by first | exact .inl rfl | exact .inr rfl) : PS X (.Assign [.Name x pos'] e pos) (tAsg te (gName i)) :=
  ps_set (i := i) hN hi hx he hs hf
theorem pg_n (i : Nat) (hN : X.N.Nodup) (hi : X.N[i]? = some x := by rfl) (hx : Loc X.env.scope x := by first | exact Or.inl rfl | exact Or.inr rfl)
    (hf : X.fn x = true ∨ X.env.scope.names.lookup x = some .local := by first | exact .inl rfl | exact .inr rfl) : PG X (.Name x pos) (gName i) := pg_name hN hi hx hf
end
section
variable {X : Cx} {x : Str} {pos : Pos}
theorem pe_cS {z : Str} (h : ∃ t, X.mg x = some (.str z t)) (hg : Gl X x := by rfl) (hd : (x == ("__debug__" : Str)) = false := by decide) : PE X (.Name x pos) (tC (.str z)) := by
  obtain ⟨t, e⟩ := h
  exact pe_glob hg e ⟨t, rfl⟩ hd
theorem pe_cI {z : Int} (h : ∃ t, X.mg x = some (.int z t)) (hg : Gl X x := by rfl) (hd : (x == ("__debug__" : Str)) = false := by decide) : PE X (.Name x pos) (tC (.int z)) := by
  obtain ⟨t, e⟩ := h
  exact pe_glob hg e ⟨t, rfl⟩ hd
end
theorem qb {Q : VK} {b c : Bool} {H : Hp} (k : Q (.bl b) H) (e : b = c) : Q (.bl c) H := e ▸ k
theorem qi {Q : VK} {b c : Int} {H : Hp} (k : Q (.int b) H) (e : b = c) : Q (.int c) H := e ▸ k
/-- a number -/
abbrev nV (n : Nat) : V := .int (n : Int)
/-- a list, a tuple of numbers -/
abbrev NL (K : PySem.W.Frag) (H : Hp) (a : Addr) (ns : List Nat) : Prop := SqL K H a (ns.map nV)
abbrev NT (K : PySem.W.Frag) (H : Hp) (a : Addr) (ns : List Nat) : Prop := SqT K H a (ns.map nV)
/-- rows of numbers: a tuple of tuples, a list of lists -/
def TblT (K : PySem.W.Frag) (H : Hp) (a : Addr) (J : List (List Nat)) : Prop := ∃ bs : List Addr, SqT K H a (bs.map V.ref) ∧ Paired (fun b r => NT K H b r) bs J
def TblL (K : PySem.W.Frag) (H : Hp) (a : Addr) (J : List (List Nat)) : Prop := ∃ bs : List Addr, SqL K H a (bs.map V.ref) ∧ Paired (fun b r => NL K H b r) bs J
theorem sameT {K : PySem.W.Frag} {H H' : Hp} {a : Addr} {xs : List V} (e : Same H H') (h : SqT K H a xs) : SqT K H' a xs := by
  rcases h with (h | ⟨o, h⟩) | h
  · exact .inl (.inl (e _ _ h))
  · exact .inl (.inr ⟨o, e _ _ h⟩)
  · exact .inr h
theorem TblT.same {K : PySem.W.Frag} {H H' : Hp} {a : Addr} {J : List (List Nat)} (e : Same H H') (h : TblT K H a J) : TblT K H' a J := by
  obtain ⟨bs, h1, h2⟩ := h
  exact ⟨bs, sameT e h1, Paired.mapP h2 fun _ _ q => sameT e q⟩
theorem TblL.same {K : PySem.W.Frag} {H H' : Hp} {a : Addr} {J : List (List Nat)} (e : Same H H') (h : TblL K H a J) : TblL K H' a J := by
  obtain ⟨bs, h1, h2⟩ := h
  exact ⟨bs, e.seq h1, Paired.mapP h2 fun _ _ q => e.seq q⟩
theorem same_upd {H : Hp} {p : Addr} {o : HO} (h : H p = none) : Same H (upd H p o) := fun b u e => by
  rw [upd_ne (ne_of_none e h)]
  exact e
/-- an object that was made behind H stays apart: H is kept -/
theorem same_put {G H : Hp} {p : Addr} {o : HO} (h : G p = none) (e : Same G H) : Same G (upd H p o) := fun b u q => by
  rw [upd_ne (ne_of_none q h)]
  exact e b u q
theorem pairedAt {α β : Type} {F : α → β → Prop} : ∀ {l₁ : List α} {l₂ : List β} {i : Nat} {y : β}, Paired F l₁ l₂ → l₂[i]? = some y → ∃ x, l₁[i]? = some x ∧ F x y
  | _, _, i, y, .nil, h => by simp at h
  | _, _, 0, y, .cons r _, h => by
    simp at h
    subst h
    exact ⟨_, rfl, r⟩
  | _, _, i + 1, y, .cons _ t, h => by
    obtain ⟨x, a, b⟩ := pairedAt (i := i) (y := y) t (by simpa using h)
    exact ⟨x, by simpa using a, b⟩
theorem pairedAt2 {α β : Type} {F : α → β → Prop} : ∀ {l₁ : List α} {l₂ : List β} {i : Nat} {x : α}, Paired F l₁ l₂ → l₁[i]? = some x → ∃ y, l₂[i]? = some y ∧ F x y
  | _, _, i, y, .nil, h => by simp at h
  | _, _, 0, y, .cons r _, h => by
    simp at h
    subst h
    exact ⟨_, rfl, r⟩
  | _, _, i + 1, y, .cons _ t, h => by
    obtain ⟨x, a, b⟩ := pairedAt2 (i := i) (x := y) t (by simpa using h)
    exact ⟨x, by simpa using a, b⟩
theorem pairedLen {α β : Type} {F : α → β → Prop} : ∀ {l₁ : List α} {l₂ : List β}, Paired F l₁ l₂ → l₁.length = l₂.length
  | _, _, .nil => rfl
  | _, _, .cons _ t => congrArg (· + 1) (pairedLen t)
theorem pairedSnoc {α β : Type} {F : α → β → Prop} {x : α} {y : β} : ∀ {l₁ : List α} {l₂ : List β}, Paired F l₁ l₂ → F x y → Paired F (l₁ ++ [x]) (l₂ ++ [y])
  | _, _, .nil, r => .cons r .nil
  | _, _, .cons q t, r => .cons q (pairedSnoc t r)
/-- the items at a place -/
theorem at_nV {ns : List Nat} {i k : Nat} (h : ns[i]? = some k) : atI (ns.map nV) (i : Int) = some (nV k) := atI_nat (by rw [List.getElem?_map, h]; rfl)
theorem at_ref {bs : List Addr} {i : Nat} {b : Addr} (h : bs[i]? = some b) : atI (bs.map V.ref) (i : Int) = some (.ref b) := atI_nat (by rw [List.getElem?_map, h]; rfl)
theorem TblT.row {K : PySem.W.Frag} {H : Hp} {a : Addr} {J : List (List Nat)} {i : Nat} {r : List Nat} (h : TblT K H a J) (e : J[i]? = some r) : ∃ (xs : List V) (b : Addr), SqT K H a xs ∧ atI xs (i : Int) = some (.ref b) ∧ NT K H b r := by
  obtain ⟨bs, h1, h2⟩ := h
  obtain ⟨b, e1, q⟩ := pairedAt h2 e
  exact ⟨_, b, h1, at_ref e1, q⟩
theorem TblL.row {K : PySem.W.Frag} {H : Hp} {a : Addr} {J : List (List Nat)} {i : Nat} {r : List Nat} (h : TblL K H a J) (e : J[i]? = some r) : ∃ (xs : List V) (b : Addr), SqL K H a xs ∧ atI xs (i : Int) = some (.ref b) ∧ NL K H b r := by
  obtain ⟨bs, h1, h2⟩ := h
  obtain ⟨b, e1, q⟩ := pairedAt h2 e
  exact ⟨_, b, h1, at_ref e1, q⟩
/-! ### comprehensions: what stands between two turns -/
/-- the list at D so far, all that stood is kept; R tells of it -/
def LcP (H1 : Hp) (D : Addr) (R : Nat → List V → Hp → Prop) (i : Nat) (H : Hp) : Prop := ∃ acc, Same H1 H ∧ H D = some (.lst acc) ∧ acc.length ≤ i ∧ R i acc H
/-- kept but D -/
def SameX (D : Addr) (H H' : Hp) : Prop := ∀ b o, b ≠ D → H b = some o → H' b = some o
theorem Same.x {D : Addr} {H H' : Hp} (e : Same H H') : SameX D H H' := fun b o _ h => e b o h
theorem LcP.zero {H1 : Hp} {D : Addr} {R : Nat → List V → Hp → Prop} (hD : H1 D = none) (r : R 0 [] (upd H1 D (.lst []))) : LcP H1 D R 0 (upd H1 D (.lst [])) :=
  ⟨[], same_upd hD, upd_same, Nat.le_refl _, r⟩
/-- the item y is put -/
theorem LcP.put {H1 H H4 : Hp} {D : Addr} {R : Nat → List V → Hp → Prop} {i : Nat} {acc : List V} {y : V} (hD : H1 D = none) (s1 : Same H1 H) (hd : H D = some (.lst acc)) (hl : acc.length ≤ i) (hi : i < sizeLine) (s4 : Same H H4)
    (r : R (i + 1) (acc ++ [y]) (upd H4 D (.lst (acc ++ [y])))) : ∃ acc', H4 D = some (.lst acc') ∧ acc'.length < sizeLine ∧ LcP H1 D R (i + 1) (upd H4 D (.lst (acc' ++ [y]))) :=
  ⟨acc, s4 _ _ hd, Nat.lt_of_le_of_lt hl hi, acc ++ [y], same_put hD (s1.trans s4), upd_same, by rw [List.length_append]; exact Nat.succ_le_succ hl, r⟩
/-- the turn's item is left out -/
theorem LcP.skip {H1 H H4 : Hp} {D : Addr} {R : Nat → List V → Hp → Prop} {i : Nat} {acc : List V} (s1 : Same H1 H) (hd : H D = some (.lst acc)) (hl : acc.length ≤ i) (s4 : Same H H4)
    (r : R (i + 1) acc H4) : LcP H1 D R (i + 1) H4 := ⟨acc, s1.trans s4, s4 _ _ hd, Nat.le_succ_of_le hl, r⟩
theorem take_succ_map {α β : Type} {f : α → β} {xs : List α} {i : Nat} {x : α} (h : xs[i]? = some x) : (xs.take i).map f ++ [f x] = (xs.take (i + 1)).map f := by
  rw [List.take_add_one, h, List.map_append]
  rfl
theorem nV_at {ns : List Nat} {i : Nat} {x : V} (h : (ns.map nV)[i]? = some x) : ∃ k, ns[i]? = some k ∧ x = nV k := by
  rw [List.getElem?_map] at h
  cases e : ns[i]? with
  | none => rw [e] at h; cases h
  | some k => rw [e] at h; exact ⟨k, rfl, (Option.some.inj h).symm⟩
theorem ref_at {bs : List Addr} {i : Nat} {x : V} (h : (bs.map V.ref)[i]? = some x) : ∃ b, bs[i]? = some b ∧ x = .ref b := by
  rw [List.getElem?_map] at h
  cases e : bs[i]? with
  | none => rw [e] at h; cases h
  | some k => rw [e] at h; exact ⟨k, rfl, (Option.some.inj h).symm⟩
theorem tyes {σ : L2.St} {H : Hp} {A B : Hp → Prop} (h : A H) : tYes σ H (fun b H3 => if b = true then A H3 else B H3) := by
  show if true = true then A H else B H
  rw [if_pos rfl]
  exact h
/-! ### dicts that are sets of numbers -/
abbrev kn (k : Nat) : Key := Sum.inl (k : Int)
def kd (ks : List Nat) : List (Key × V) := ks.map fun k => (kn k, V.bl true)
theorem kn_inj {a b : Nat} : kn a = kn b ↔ a = b := ⟨fun h => by injection h with h; omega, fun h => by rw [h]⟩
theorem kd_val : ∀ (ks : List Nat) (k : Nat), valV (kd ks) (kn k) = if k ∈ ks then some (V.bl true) else none
  | [], k => rfl
  | a :: ks, k => by
    show valV ((kn a, V.bl true) :: kd ks) (kn k) = _
    by_cases e : a = k
    · subst e
      rw [valV_pos rfl, if_pos List.mem_cons_self]
    · rw [valV_neg (fun z => e (kn_inj.mp z)), kd_val ks k]
      have h : (k ∈ a :: ks) ↔ k ∈ ks := ⟨fun m => (List.mem_cons.mp m).resolve_left fun z => e z.symm, List.mem_cons_of_mem _⟩
      simp only [h]
theorem kd_some (ks : List Nat) (k : Nat) : (valV (kd ks) (kn k)).isSome = decide (k ∈ ks) := by
  rw [kd_val]
  by_cases h : k ∈ ks <;> simp [h]
theorem kd_map_same : ∀ (ks : List Nat) (k : Key), ((kd ks).map fun kv => if kv.1 = k then (kv.1, V.bl true) else kv) = kd ks
  | [], _ => rfl
  | a :: ks, k => by
    show (if kn a = k then (kn a, V.bl true) else (kn a, V.bl true)) :: (kd ks).map _ = (kn a, V.bl true) :: kd ks
    rw [kd_map_same ks k]
    split <;> rfl
/-- a key put -/
def insN (ks : List Nat) (k : Nat) : List Nat := if k ∈ ks then ks else ks ++ [k]
theorem kd_put (ks : List Nat) (k : Nat) : putK (kd ks) (kn k) (V.bl true) = kd (insN ks k) := by
  unfold insN
  by_cases h : k ∈ ks
  · rw [if_pos h]
    unfold putK
    rw [if_pos (by rw [valV_any, kd_some]; exact decide_eq_true h), kd_map_same]
  · rw [if_neg h, putK_new _ (by rw [kd_val, if_neg h])]
    unfold kd
    rw [List.map_append]
    rfl
theorem kd_len (ks : List Nat) : (kd ks).length = ks.length := List.length_map ..
theorem insN_len (ks : List Nat) (k : Nat) : (insN ks k).length ≤ ks.length + 1 := by
  unfold insN
  split
  · omega
  · simp
theorem mem_insN {ks : List Nat} {k j : Nat} : j ∈ insN ks k ↔ j ∈ ks ∨ j = k := by
  unfold insN
  split
  · rename_i h
    exact ⟨.inl, fun q => q.elim id fun e => e ▸ h⟩
  · simp
theorem insN_nodup {ks : List Nat} {k : Nat} (h : ks.Nodup) : (insN ks k).Nodup := by
  unfold insN
  split
  · exact h
  · rename_i n
    exact List.nodup_append.mpr ⟨h, by simp, fun a ha b hb => by simp at hb; subst hb; exact fun e => n (e ▸ ha)⟩
/-- a frame's values at its entry, name by name -/
theorem st_c (n : Str) (N : List Str) (v : V) (vs : List V) : L2.start (n :: N) (v :: vs) = some v :: L2.start N vs := by
  unfold L2.start
  rw [List.length_cons, List.length_cons, Nat.add_sub_add_right]
  rfl
theorem st_n (n : Str) (N : List Str) : L2.start (n :: N) [] = none :: L2.start N [] := rfl
theorem st_0 : L2.start [] [] = [] := rfl
end UC
set_option Elab.async false
set_option linter.all false
set_option maxRecDepth 100000
set_option maxHeartbeats 4000000
/-! The text by places, the facts of the top. -/
namespace UC
open PySem PySem.Spec PyProof.Rows L2
def top (i : Nat) : Stmt := PySem.Challenge.pw_usecounts_k31_whole_kinds_that_stands_ha.main.body.getD i (.Pass ⟨0, 0, 0, 0⟩)
abbrev s_is_integer : Stmt := top 10
abbrev s_is_within : Stmt := top 11
abbrev s_is_pair : Stmt := top 12
abbrev s_is_name : Stmt := top 13
abbrev s_is_kind_of_any_size : Stmt := top 16
abbrev s_check_kind : Stmt := top 17
abbrev s_leasts_of : Stmt := top 27
abbrev s_is_sum : Stmt := top 28
abbrev s_needed_makers : Stmt := top 29
abbrev s_are_makers : Stmt := top 30
abbrev s_are_flags : Stmt := top 31
abbrev s_Lot_init : Stmt := inClass (top 32) 0
abbrev s_Lot_keep : Stmt := inClass (top 32) 1
abbrev s_Lot_eq : Stmt := inClass (top 32) 2
abbrev s_RawLot_init : Stmt := inClass (top 33) 0
abbrev s_RawLot_eq : Stmt := inClass (top 33) 1
abbrev s_holds_raw : Stmt := top 34
abbrev s_are_named : Stmt := top 37
abbrev s_Book_init : Stmt := inClass (top 38) 0
abbrev s_Book_eq : Stmt := inClass (top 38) 1
abbrev s_check_let : Stmt := top 40
abbrev s_check_task : Stmt := top 41
abbrev s_are_stands : Stmt := top 44
abbrev s_makers_of : Stmt := top 45
abbrev s_is_joining : Stmt := top 46
abbrev s_are_letters : Stmt := top 47
abbrev s_so_often : Stmt := top 48
abbrev s_held_of : Stmt := top 49
abbrev s_bits_of : Stmt := top 50
abbrev s_stands_of : Stmt := top 51
abbrev s_looks_of : Stmt := top 52
abbrev s_is_lawful : Stmt := top 53
abbrev s_House_init : Stmt := inClass (top 54) 0
abbrev s_House_keep : Stmt := inClass (top 54) 1
abbrev s_House_eq : Stmt := inClass (top 54) 3
abbrev s_has_of : Stmt := top 55
abbrev s_stands_with : Stmt := top 56
abbrev s_is_against_there : Stmt := top 57
abbrev s_is_against : Stmt := top 58
abbrev s_law_pool : Stmt := top 60
abbrev s_law_draw : Stmt := top 61
abbrev s_law_any : Stmt := top 62
abbrev s_law_is_int : Stmt := top 63
abbrev s_law_deep : Stmt := top 64
abbrev s_law_flag : Stmt := top 65
abbrev s_law_odd : Stmt := top 66
abbrev s_law_spec : Stmt := top 67
abbrev s_law_numbers : Stmt := top 68
abbrev s_law_kind : Stmt := top 69
abbrev s_law_plain_joining : Stmt := top 70
abbrev s_law_paired : Stmt := top 71
abbrev s_law_joining : Stmt := top 72
abbrev s_law_multiples : Stmt := top 73
abbrev s_law_closed : Stmt := top 74
abbrev s_law_letters : Stmt := top 75
abbrev s_law_stands : Stmt := top 76
abbrev s_law_turned : Stmt := top 77
abbrev s_law_one_right : Stmt := top 78
abbrev s_law_against_right : Stmt := top 79
abbrev s_law_great_right : Stmt := top 80
abbrev s_law : Stmt := top 81
abbrev FnP (K : PySem.W.Frag) (x q : Str) (st : Stmt) (f : Addr) (fd : FuncData) : Prop := FunD K x q (defArgs st) (defBody st) (defScope st) [] [] f fd
/-- a def of the module as it stands behind the top -/
structure Df (K : PySem.W.Frag) (mg : Str → Option Value) (x : Str) (st : Stmt) : Prop where
  ex : ∃ fd, FnP K x x st (He.ga K x) fd
  gm : mg x = some (.ref (He.ga K x))
/-- a method of a class of the module -/
structure Dm (K : PySem.W.Frag) (c m q : Str) (st : Stmt) : Prop where
  ex : ∃ fd, FnP K m q st (He.ma K (He.ga K c) m) fd
/-- a method that keeps a promise -/
structure PrM (P : Program) (w : World) (K : PySem.W.Frag) (mg : Str → Option Value) (base : Heap) (k : Nat) (c m : Str) (ps : List Str) (sp : Sp) : Prop where
  ex : ∃ fd : FuncData, FnOk P w K mg base CX0 k (He.ma K (He.ga K c) m) fd ps sp ∧ Binds K fd ps []
section
variable {P : Program} {w : World} {K : PySem.W.Frag} {mg : Str → Option Value} {base : Heap} {x c m q : Str} {st : Stmt} {N ps : List Str} {k : Nat} {sp : Sp}
theorem Df.pr (D : Df K mg x st) (S : FnScope N ps (defScope st)) (len : ∀ vs H Q E, sp vs H Q E → vs.length = ps.length)
    (hb : ∀ (kV doc pm : Value) (an : Option Addr) (cdv ct : Value) (us : List Value), us.length = ps.length → bindArgs (PySem.W.fnOf x x (defArgs st) (defBody st) (defScope st) .none kV doc pm an cdv ct) ⟨us, []⟩ = pure (ps.zip us))
    (hbody : ∀ (f : Addr) (cdv : Value) (A : Around) (outer : List Env) (s : Shared) (H : Hp) (vs : List V) (Q : VK) (E : XK), Room k (A.deeper (envOfC x (defScope st) s.heap.objs.size f cdv)) → sp vs H Q E →
      ∃ t, PSs (cxOf CX0 P w K mg base N x (defScope st) f cdv A outer s H E).nox (defBody st) t ∧ t { nx := fun _ H' => Q .non H', rt := Q } (start N vs) H) : Pr P w K mg base (k + 1) x ps sp := by
  obtain ⟨fd, F⟩ := D.ex
  refine ⟨_, fd, FunD.ok F S len fun cdv A outer s H vs Q E hr h => ?_, D.gm, F.kp, F.bindsN hb⟩
  obtain ⟨t, h1, h2⟩ := hbody _ cdv A outer s H vs Q E hr h
  exact ⟨t, h1.nox, h2⟩
theorem Dm.pr (D : Dm K c m q st) (S : FnScope N ps (defScope st)) (len : ∀ vs H Q E, sp vs H Q E → vs.length = ps.length)
    (hb : ∀ (kV doc pm : Value) (an : Option Addr) (cdv ct : Value) (us : List Value), us.length = ps.length → bindArgs (PySem.W.fnOf m q (defArgs st) (defBody st) (defScope st) .none kV doc pm an cdv ct) ⟨us, []⟩ = pure (ps.zip us))
    (hbody : ∀ (f : Addr) (cdv : Value) (A : Around) (outer : List Env) (s : Shared) (H : Hp) (vs : List V) (Q : VK) (E : XK), Room k (A.deeper (envOfC q (defScope st) s.heap.objs.size f cdv)) → sp vs H Q E →
      ∃ t, PSs (cxOf CX0 P w K mg base N q (defScope st) f cdv A outer s H E).nox (defBody st) t ∧ t { nx := fun _ H' => Q .non H', rt := Q } (start N vs) H) : PrM P w K mg base (k + 1) c m ps sp := by
  obtain ⟨fd, F⟩ := D.ex
  refine ⟨fd, FunD.ok F S len fun cdv A outer s H vs Q E hr h => ?_, F.bindsN hb⟩
  obtain ⟨t, h1, h2⟩ := hbody _ cdv A outer s H vs Q E hr h
  exact ⟨t, h1.nox, h2⟩
end
section
variable {X : Cx} {c m : Str} {p pos apos : Pos} {o e : Expr} {es : List Expr} {ta : TE} {t : TA} {ps : List Str} {sp : Sp} {j k : Nat}
theorem pe_methP {pl : Sem Bool} (G : PrM X.prog X.w X.K X.mg X.base j c m ps sp) (M : Meth X.K (He.ga X.K c) m (He.ma X.K (He.ga X.K c) m)) (C : Cls X.K (He.ga X.K c)) (hr : Room k X.A) (hj : j ≤ k) (he : PE X o ta) (ha : PA X (e :: es) t)
    (hst : starEach (e :: es) X.env = (false, eval e X.env) :: starEach es X.env := by rfl) (hpl : (backTo pos (starEach es X.env)).any (·.1) = false := by rfl)
    (ht : eval (.Call (.Attribute o m apos) (e :: es) [] pos) X.env = (do
      let ov ← eval o X.env
      standAt apos.atName
      let (f, first) ← holding [ov] (getMethod ov m pl)
      callWith pos f first (backTo pos (starEach (e :: es) X.env)) (backToKw pos (keywordEach [] X.env))) := by rfl) :
    PE X (.Call (.Attribute o m apos) (e :: es) [] pos) (tMeth (He.ga X.K c) m sp [] E0 ta t) := by
  refine ⟨fun pins s σ H Q I h => ?_⟩
  obtain ⟨fd, F, hb⟩ := G.ex
  exact (pe_meth (pl := pl) he C M F (hr.mono hj) hb .nil pass0 ha hst hpl ht).run pins s σ H Q I h
theorem pe_makeP (G : PrM X.prog X.w X.K X.mg X.base j c "__init__" ps sp) (M : Mk X.K (He.ga X.K c) (He.ma X.K (He.ga X.K c) "__init__")) (hm : X.mg c = some (.ref (He.ga X.K c))) (hr : Room k X.A) (hj : j + 1 ≤ k) (ha : PA X (e :: es) t) (hg : Gl X c := by rfl)
    (hdb : (c == ("__debug__" : Str)) = false := by decide) (he : starEach (e :: es) X.env = (false, eval e X.env) :: starEach es X.env := by rfl) (hpl : (backTo pos (starEach es X.env)).any (·.1) = false := by rfl) :
    PE X (.Call (.Name c p) (e :: es) [] pos) (tMake (He.ga X.K c) sp [] E0 t) := by
  refine ⟨fun pins s σ H Q I h => ?_⟩
  obtain ⟨fd, F, hb⟩ := G.ex
  exact (pe_make M F (hr.mono hj) hg hm hb .nil pass0 ha hdb he hpl).run pins s σ H Q I h
end
/-- an own class: its instances' looks -/
structure OwnC (K : PySem.W.Frag) (C : Addr) : Prop where
  cl : Cls K C
  ha : PySem.W.findIn K (.ref C) "__class__" = some (some (.builtin "object.__class__"))
  hn : PySem.W.specialIn K (.builtin "object.__class__") "__get__" = some (some (.builtin "getset_descriptor.__get__"))
  hk : PySem.W.takesIn K (.builtin "object.__class__") = some true
  hm : PySem.W.mroIn K C (.type "object") = some true
theorem OwnC.ty {K : PySem.W.Frag} {C a dx : Addr} {H : Hp} {fs : List (Str × V)} (O : OwnC K C) (e : H a = some (.ins C dx fs)) : TyX K H (.ref a) (.ref C) := .base (.ins e O.cl O.ha O.hn O.hk O.hm)
/-- what is read off the top -/
structure Txt (K : PySem.W.Frag) (mg : Str → Option Value) : Prop where
  b_len : mg "len" = none
  b_isinstance : mg "isinstance" = none
  b_int : mg "int" = none
  b_bool : mg "bool" = none
  b_str : mg "str" = none
  b_tuple : mg "tuple" = none
  b_dict : mg "dict" = none
  b_all : mg "all" = none
  b_any : mg "any" = none
  b_range : mg "range" = none
  b_sorted : mg "sorted" = none
  b_set : mg "set" = none
  b_list : mg "list" = none
  b_max : mg "max" = none
  b_min : mg "min" = none
  b_sum : mg "sum" = none
  b_enumerate : mg "enumerate" = none
  b_abs : mg "abs" = none
  k_SMALL : ∃ t, mg "SMALL" = some (.str "abcdefghijklmnopqrstuvwxyz" t)
  k_MOST_SIGNS : ∃ t, mg "MOST_SIGNS" = some (.int 8 t)
  k_LAST_LETTER : ∃ t, mg "LAST_LETTER" = some (.int 25 t)
  k_ONCE : ∃ t, mg "ONCE" = some (.str "once" t)
  k_LOAN : ∃ t, mg "LOAN" = some (.str "loan" t)
  k_FREE : ∃ t, mg "FREE" = some (.str "free" t)
  k_MORE : ∃ t, mg "MORE" = some (.str "more" t)
  k_MOST_MAKERS : ∃ t, mg "MOST_MAKERS" = some (.int 4 t)
  k_MOST_MAKER : ∃ t, mg "MOST_MAKER" = some (.int 12 t)
  k_MOST_HEADS : ∃ t, mg "MOST_HEADS" = some (.int 8 t)
  k_MOST_ROUNDS : ∃ t, mg "MOST_ROUNDS" = some (.int 6 t)
  k_MOST_TOOLS : ∃ t, mg "MOST_TOOLS" = some (.int 8 t)
  k_MOST_STANDS : ∃ t, mg "MOST_STANDS" = some (.int 200 t)
  g_Lot : mg "Lot" = some (.ref (He.ga K "Lot"))
  o_Lot : OwnC K (He.ga K "Lot")
  g_RawLot : mg "RawLot" = some (.ref (He.ga K "RawLot"))
  o_RawLot : OwnC K (He.ga K "RawLot")
  g_Book : mg "Book" = some (.ref (He.ga K "Book"))
  o_Book : OwnC K (He.ga K "Book")
  g_House : mg "House" = some (.ref (He.ga K "House"))
  o_House : OwnC K (He.ga K "House")
  m_Lot : Mk K (He.ga K "Lot") (He.ma K (He.ga K "Lot") "__init__")
  m_Book : Mk K (He.ga K "Book") (He.ma K (He.ga K "Book") "__init__")
  m_House : Mk K (He.ga K "House") (He.ma K (He.ga K "House") "__init__")
  n_Lot_word : NoAttr K (He.ga K "Lot") "word"
  n_Lot_makers : NoAttr K (He.ga K "Lot") "makers"
  n_Lot_leasts : NoAttr K (He.ga K "Lot") "leasts"
  n_Book_lot : NoAttr K (He.ga K "Book") "lot"
  n_Book_tools : NoAttr K (He.ga K "Book") "tools"
  n_House_lot : NoAttr K (He.ga K "House") "lot"
  n_House_joining : NoAttr K (He.ga K "House") "joining"
  n_House_kept_letters : NoAttr K (He.ga K "House") "kept_letters"
  t_Lot_keep : Meth K (He.ga K "Lot") "keep" (He.ma K (He.ga K "Lot") "keep")
  t_Lot_eq : Meth K (He.ga K "Lot") "__eq__" (He.ma K (He.ga K "Lot") "__eq__")
  t_House_keep : Meth K (He.ga K "House") "keep" (He.ma K (He.ga K "House") "keep")
  t_Lot_init : Meth K (He.ga K "Lot") "__init__" (He.ma K (He.ga K "Lot") "__init__")
  t_Book_init : Meth K (He.ga K "Book") "__init__" (He.ma K (He.ga K "Book") "__init__")
  t_House_init : Meth K (He.ga K "House") "__init__" (He.ma K (He.ga K "House") "__init__")
  ne_Lot : PySem.W.findIn K (.ref (He.ga K "Lot")) "__ne__" = some (some (.builtin "object.__ne__"))
  h_NoneType : PySem.W.kitOne K (.type "NoneType") (.ref (He.ga K "House")) = some false
  h_bool : PySem.W.kitOne K (.type "bool") (.ref (He.ga K "House")) = some false
  h_int : PySem.W.kitOne K (.type "int") (.ref (He.ga K "House")) = some false
  h_str : PySem.W.kitOne K (.type "str") (.ref (He.ga K "House")) = some false
  h_tuple : PySem.W.kitOne K (.type "tuple") (.ref (He.ga K "House")) = some false
  h_list : PySem.W.kitOne K (.type "list") (.ref (He.ga K "House")) = some false
  h_dict : PySem.W.kitOne K (.type "dict") (.ref (He.ga K "House")) = some false
  h_Book : PySem.W.kitOne K (.ref (He.ga K "Book")) (.ref (He.ga K "House")) = some false
  d_is_integer : Df K mg "is_integer" s_is_integer
  d_is_within : Df K mg "is_within" s_is_within
  d_is_pair : Df K mg "is_pair" s_is_pair
  d_is_name : Df K mg "is_name" s_is_name
  d_is_kind_of_any_size : Df K mg "is_kind_of_any_size" s_is_kind_of_any_size
  d_check_kind : Df K mg "check_kind" s_check_kind
  d_leasts_of : Df K mg "leasts_of" s_leasts_of
  d_is_sum : Df K mg "is_sum" s_is_sum
  d_needed_makers : Df K mg "needed_makers" s_needed_makers
  d_are_makers : Df K mg "are_makers" s_are_makers
  d_are_flags : Df K mg "are_flags" s_are_flags
  d_Lot_init : Dm K "Lot" "__init__" "Lot.__init__" s_Lot_init
  d_Lot_keep : Dm K "Lot" "keep" "Lot.keep" s_Lot_keep
  d_Lot_eq : Dm K "Lot" "__eq__" "Lot.__eq__" s_Lot_eq
  d_RawLot_init : Dm K "RawLot" "__init__" "RawLot.__init__" s_RawLot_init
  d_RawLot_eq : Dm K "RawLot" "__eq__" "RawLot.__eq__" s_RawLot_eq
  d_holds_raw : Df K mg "holds_raw" s_holds_raw
  d_are_named : Df K mg "are_named" s_are_named
  d_Book_init : Dm K "Book" "__init__" "Book.__init__" s_Book_init
  d_Book_eq : Dm K "Book" "__eq__" "Book.__eq__" s_Book_eq
  d_check_let : Df K mg "check_let" s_check_let
  d_check_task : Df K mg "check_task" s_check_task
  d_are_stands : Df K mg "are_stands" s_are_stands
  d_makers_of : Df K mg "makers_of" s_makers_of
  d_is_joining : Df K mg "is_joining" s_is_joining
  d_are_letters : Df K mg "are_letters" s_are_letters
  d_so_often : Df K mg "so_often" s_so_often
  d_held_of : Df K mg "held_of" s_held_of
  d_bits_of : Df K mg "bits_of" s_bits_of
  d_stands_of : Df K mg "stands_of" s_stands_of
  d_looks_of : Df K mg "looks_of" s_looks_of
  d_is_lawful : Df K mg "is_lawful" s_is_lawful
  d_House_init : Dm K "House" "__init__" "House.__init__" s_House_init
  d_House_keep : Dm K "House" "keep" "House.keep" s_House_keep
  d_House_eq : Dm K "House" "__eq__" "House.__eq__" s_House_eq
  d_has_of : Df K mg "has_of" s_has_of
  d_stands_with : Df K mg "stands_with" s_stands_with
  d_is_against_there : Df K mg "is_against_there" s_is_against_there
  d_is_against : Df K mg "is_against" s_is_against
  d_law_pool : Df K mg "_law_pool" s_law_pool
  d_law_draw : Df K mg "_law_draw" s_law_draw
  d_law_any : Df K mg "_law_any" s_law_any
  d_law_is_int : Df K mg "_law_is_int" s_law_is_int
  d_law_deep : Df K mg "_law_deep" s_law_deep
  d_law_flag : Df K mg "_law_flag" s_law_flag
  d_law_odd : Df K mg "_law_odd" s_law_odd
  d_law_spec : Df K mg "_law_spec" s_law_spec
  d_law_numbers : Df K mg "_law_numbers" s_law_numbers
  d_law_kind : Df K mg "_law_kind" s_law_kind
  d_law_plain_joining : Df K mg "_law_plain_joining" s_law_plain_joining
  d_law_paired : Df K mg "_law_paired" s_law_paired
  d_law_joining : Df K mg "_law_joining" s_law_joining
  d_law_multiples : Df K mg "_law_multiples" s_law_multiples
  d_law_closed : Df K mg "_law_closed" s_law_closed
  d_law_letters : Df K mg "_law_letters" s_law_letters
  d_law_stands : Df K mg "_law_stands" s_law_stands
  d_law_turned : Df K mg "_law_turned" s_law_turned
  d_law_one_right : Df K mg "_law_one_right" s_law_one_right
  d_law_against_right : Df K mg "_law_against_right" s_law_against_right
  d_law_great_right : Df K mg "_law_great_right" s_law_great_right
  d_law : Df K mg "law" s_law
end UC
set_option Elab.async false
set_option linter.all false
set_option maxRecDepth 100000
set_option maxHeartbeats 0
/-! The top's run and what is read off it. -/
namespace UC
open PySem PySem.Spec PyProof.Rows L2
def dd_is_integer : He.DefD := ⟨("is_integer", none), "is_integer", "is_integer", defArgs s_is_integer, defBody s_is_integer, defScope s_is_integer, [], []⟩
def dd_is_within : He.DefD := ⟨("is_within", none), "is_within", "is_within", defArgs s_is_within, defBody s_is_within, defScope s_is_within, [], []⟩
def dd_is_pair : He.DefD := ⟨("is_pair", none), "is_pair", "is_pair", defArgs s_is_pair, defBody s_is_pair, defScope s_is_pair, [], []⟩
def dd_is_name : He.DefD := ⟨("is_name", none), "is_name", "is_name", defArgs s_is_name, defBody s_is_name, defScope s_is_name, [], []⟩
def dd_is_kind_of_any_size : He.DefD := ⟨("is_kind_of_any_size", none), "is_kind_of_any_size", "is_kind_of_any_size", defArgs s_is_kind_of_any_size, defBody s_is_kind_of_any_size, defScope s_is_kind_of_any_size, [], []⟩
def dd_check_kind : He.DefD := ⟨("check_kind", none), "check_kind", "check_kind", defArgs s_check_kind, defBody s_check_kind, defScope s_check_kind, [], []⟩
def dd_leasts_of : He.DefD := ⟨("leasts_of", none), "leasts_of", "leasts_of", defArgs s_leasts_of, defBody s_leasts_of, defScope s_leasts_of, [], []⟩
def dd_is_sum : He.DefD := ⟨("is_sum", none), "is_sum", "is_sum", defArgs s_is_sum, defBody s_is_sum, defScope s_is_sum, [], []⟩
def dd_needed_makers : He.DefD := ⟨("needed_makers", none), "needed_makers", "needed_makers", defArgs s_needed_makers, defBody s_needed_makers, defScope s_needed_makers, [], []⟩
def dd_are_makers : He.DefD := ⟨("are_makers", none), "are_makers", "are_makers", defArgs s_are_makers, defBody s_are_makers, defScope s_are_makers, [], []⟩
def dd_are_flags : He.DefD := ⟨("are_flags", none), "are_flags", "are_flags", defArgs s_are_flags, defBody s_are_flags, defScope s_are_flags, [], []⟩
def dd_Lot_init : He.DefD := ⟨("Lot", some "__init__"), "__init__", "Lot.__init__", defArgs s_Lot_init, defBody s_Lot_init, defScope s_Lot_init, [], []⟩
def dd_Lot_keep : He.DefD := ⟨("Lot", some "keep"), "keep", "Lot.keep", defArgs s_Lot_keep, defBody s_Lot_keep, defScope s_Lot_keep, [], []⟩
def dd_Lot_eq : He.DefD := ⟨("Lot", some "__eq__"), "__eq__", "Lot.__eq__", defArgs s_Lot_eq, defBody s_Lot_eq, defScope s_Lot_eq, [], []⟩
def dd_RawLot_init : He.DefD := ⟨("RawLot", some "__init__"), "__init__", "RawLot.__init__", defArgs s_RawLot_init, defBody s_RawLot_init, defScope s_RawLot_init, [], []⟩
def dd_RawLot_eq : He.DefD := ⟨("RawLot", some "__eq__"), "__eq__", "RawLot.__eq__", defArgs s_RawLot_eq, defBody s_RawLot_eq, defScope s_RawLot_eq, [], []⟩
def dd_holds_raw : He.DefD := ⟨("holds_raw", none), "holds_raw", "holds_raw", defArgs s_holds_raw, defBody s_holds_raw, defScope s_holds_raw, [], []⟩
def dd_are_named : He.DefD := ⟨("are_named", none), "are_named", "are_named", defArgs s_are_named, defBody s_are_named, defScope s_are_named, [], []⟩
def dd_Book_init : He.DefD := ⟨("Book", some "__init__"), "__init__", "Book.__init__", defArgs s_Book_init, defBody s_Book_init, defScope s_Book_init, [], []⟩
def dd_Book_eq : He.DefD := ⟨("Book", some "__eq__"), "__eq__", "Book.__eq__", defArgs s_Book_eq, defBody s_Book_eq, defScope s_Book_eq, [], []⟩
def dd_check_let : He.DefD := ⟨("check_let", none), "check_let", "check_let", defArgs s_check_let, defBody s_check_let, defScope s_check_let, [], []⟩
def dd_check_task : He.DefD := ⟨("check_task", none), "check_task", "check_task", defArgs s_check_task, defBody s_check_task, defScope s_check_task, [], []⟩
def dd_are_stands : He.DefD := ⟨("are_stands", none), "are_stands", "are_stands", defArgs s_are_stands, defBody s_are_stands, defScope s_are_stands, [], []⟩
def dd_makers_of : He.DefD := ⟨("makers_of", none), "makers_of", "makers_of", defArgs s_makers_of, defBody s_makers_of, defScope s_makers_of, [], []⟩
def dd_is_joining : He.DefD := ⟨("is_joining", none), "is_joining", "is_joining", defArgs s_is_joining, defBody s_is_joining, defScope s_is_joining, [], []⟩
def dd_are_letters : He.DefD := ⟨("are_letters", none), "are_letters", "are_letters", defArgs s_are_letters, defBody s_are_letters, defScope s_are_letters, [], []⟩
def dd_so_often : He.DefD := ⟨("so_often", none), "so_often", "so_often", defArgs s_so_often, defBody s_so_often, defScope s_so_often, [], []⟩
def dd_held_of : He.DefD := ⟨("held_of", none), "held_of", "held_of", defArgs s_held_of, defBody s_held_of, defScope s_held_of, [], []⟩
def dd_bits_of : He.DefD := ⟨("bits_of", none), "bits_of", "bits_of", defArgs s_bits_of, defBody s_bits_of, defScope s_bits_of, [], []⟩
def dd_stands_of : He.DefD := ⟨("stands_of", none), "stands_of", "stands_of", defArgs s_stands_of, defBody s_stands_of, defScope s_stands_of, [], []⟩
def dd_looks_of : He.DefD := ⟨("looks_of", none), "looks_of", "looks_of", defArgs s_looks_of, defBody s_looks_of, defScope s_looks_of, [], []⟩
def dd_is_lawful : He.DefD := ⟨("is_lawful", none), "is_lawful", "is_lawful", defArgs s_is_lawful, defBody s_is_lawful, defScope s_is_lawful, [], []⟩
def dd_House_init : He.DefD := ⟨("House", some "__init__"), "__init__", "House.__init__", defArgs s_House_init, defBody s_House_init, defScope s_House_init, [], []⟩
def dd_House_keep : He.DefD := ⟨("House", some "keep"), "keep", "House.keep", defArgs s_House_keep, defBody s_House_keep, defScope s_House_keep, [], []⟩
def dd_House_eq : He.DefD := ⟨("House", some "__eq__"), "__eq__", "House.__eq__", defArgs s_House_eq, defBody s_House_eq, defScope s_House_eq, [], []⟩
def dd_has_of : He.DefD := ⟨("has_of", none), "has_of", "has_of", defArgs s_has_of, defBody s_has_of, defScope s_has_of, [], []⟩
def dd_stands_with : He.DefD := ⟨("stands_with", none), "stands_with", "stands_with", defArgs s_stands_with, defBody s_stands_with, defScope s_stands_with, [], []⟩
def dd_is_against_there : He.DefD := ⟨("is_against_there", none), "is_against_there", "is_against_there", defArgs s_is_against_there, defBody s_is_against_there, defScope s_is_against_there, [], []⟩
def dd_is_against : He.DefD := ⟨("is_against", none), "is_against", "is_against", defArgs s_is_against, defBody s_is_against, defScope s_is_against, [], []⟩
def dd_law_pool : He.DefD := ⟨("_law_pool", none), "_law_pool", "_law_pool", defArgs s_law_pool, defBody s_law_pool, defScope s_law_pool, [], []⟩
def dd_law_draw : He.DefD := ⟨("_law_draw", none), "_law_draw", "_law_draw", defArgs s_law_draw, defBody s_law_draw, defScope s_law_draw, [], []⟩
def dd_law_any : He.DefD := ⟨("_law_any", none), "_law_any", "_law_any", defArgs s_law_any, defBody s_law_any, defScope s_law_any, [], []⟩
def dd_law_is_int : He.DefD := ⟨("_law_is_int", none), "_law_is_int", "_law_is_int", defArgs s_law_is_int, defBody s_law_is_int, defScope s_law_is_int, [], []⟩
def dd_law_deep : He.DefD := ⟨("_law_deep", none), "_law_deep", "_law_deep", defArgs s_law_deep, defBody s_law_deep, defScope s_law_deep, [], []⟩
def dd_law_flag : He.DefD := ⟨("_law_flag", none), "_law_flag", "_law_flag", defArgs s_law_flag, defBody s_law_flag, defScope s_law_flag, [], []⟩
def dd_law_odd : He.DefD := ⟨("_law_odd", none), "_law_odd", "_law_odd", defArgs s_law_odd, defBody s_law_odd, defScope s_law_odd, [], []⟩
def dd_law_spec : He.DefD := ⟨("_law_spec", none), "_law_spec", "_law_spec", defArgs s_law_spec, defBody s_law_spec, defScope s_law_spec, [], []⟩
def dd_law_numbers : He.DefD := ⟨("_law_numbers", none), "_law_numbers", "_law_numbers", defArgs s_law_numbers, defBody s_law_numbers, defScope s_law_numbers, [], []⟩
def dd_law_kind : He.DefD := ⟨("_law_kind", none), "_law_kind", "_law_kind", defArgs s_law_kind, defBody s_law_kind, defScope s_law_kind, [], []⟩
def dd_law_plain_joining : He.DefD := ⟨("_law_plain_joining", none), "_law_plain_joining", "_law_plain_joining", defArgs s_law_plain_joining, defBody s_law_plain_joining, defScope s_law_plain_joining, [], []⟩
def dd_law_paired : He.DefD := ⟨("_law_paired", none), "_law_paired", "_law_paired", defArgs s_law_paired, defBody s_law_paired, defScope s_law_paired, [], []⟩
def dd_law_joining : He.DefD := ⟨("_law_joining", none), "_law_joining", "_law_joining", defArgs s_law_joining, defBody s_law_joining, defScope s_law_joining, [], []⟩
def dd_law_multiples : He.DefD := ⟨("_law_multiples", none), "_law_multiples", "_law_multiples", defArgs s_law_multiples, defBody s_law_multiples, defScope s_law_multiples, [], []⟩
def dd_law_closed : He.DefD := ⟨("_law_closed", none), "_law_closed", "_law_closed", defArgs s_law_closed, defBody s_law_closed, defScope s_law_closed, [], []⟩
def dd_law_letters : He.DefD := ⟨("_law_letters", none), "_law_letters", "_law_letters", defArgs s_law_letters, defBody s_law_letters, defScope s_law_letters, [], []⟩
def dd_law_stands : He.DefD := ⟨("_law_stands", none), "_law_stands", "_law_stands", defArgs s_law_stands, defBody s_law_stands, defScope s_law_stands, [], []⟩
def dd_law_turned : He.DefD := ⟨("_law_turned", none), "_law_turned", "_law_turned", defArgs s_law_turned, defBody s_law_turned, defScope s_law_turned, [], []⟩
def dd_law_one_right : He.DefD := ⟨("_law_one_right", none), "_law_one_right", "_law_one_right", defArgs s_law_one_right, defBody s_law_one_right, defScope s_law_one_right, [], []⟩
def dd_law_against_right : He.DefD := ⟨("_law_against_right", none), "_law_against_right", "_law_against_right", defArgs s_law_against_right, defBody s_law_against_right, defScope s_law_against_right, [], []⟩
def dd_law_great_right : He.DefD := ⟨("_law_great_right", none), "_law_great_right", "_law_great_right", defArgs s_law_great_right, defBody s_law_great_right, defScope s_law_great_right, [], []⟩
def dd_law : He.DefD := ⟨("law", none), "law", "law", defArgs s_law, defBody s_law, defScope s_law, [], []⟩
def fn_0 : List He.DefD := [dd_is_integer, dd_is_within, dd_is_pair, dd_is_name, dd_is_kind_of_any_size, dd_check_kind, dd_leasts_of, dd_is_sum, dd_needed_makers, dd_are_makers, dd_are_flags, dd_Lot_init, dd_Lot_keep, dd_Lot_eq, dd_RawLot_init, dd_RawLot_eq, dd_holds_raw, dd_are_named, dd_Book_init, dd_Book_eq, dd_check_let, dd_check_task, dd_are_stands, dd_makers_of, dd_is_joining, dd_are_letters, dd_so_often, dd_held_of, dd_bits_of, dd_stands_of]
def fn_1 : List He.DefD := [dd_looks_of, dd_is_lawful, dd_House_init, dd_House_keep, dd_House_eq, dd_has_of, dd_stands_with, dd_is_against_there, dd_is_against, dd_law_pool, dd_law_draw, dd_law_any, dd_law_is_int, dd_law_deep, dd_law_flag, dd_law_odd, dd_law_spec, dd_law_numbers, dd_law_kind, dd_law_plain_joining, dd_law_paired, dd_law_joining, dd_law_multiples, dd_law_closed, dd_law_letters, dd_law_stands, dd_law_turned, dd_law_one_right, dd_law_against_right, dd_law_great_right]
def fn_2 : List He.DefD := [dd_law]
def fn : List He.DefD := fn_0 ++ fn_1 ++ fn_2
def fa_0 : List He.Fa := [.glo "is_integer", .glo "is_within", .glo "is_pair", .glo "is_name", .glo "is_kind_of_any_size", .glo "check_kind", .glo "leasts_of", .glo "is_sum", .glo "needed_makers", .glo "are_makers", .glo "are_flags", .glo "holds_raw", .glo "are_named", .glo "check_let", .glo "check_task", .glo "are_stands", .glo "makers_of", .glo "is_joining", .glo "are_letters", .glo "so_often", .glo "held_of", .glo "bits_of", .glo "stands_of", .glo "looks_of", .glo "is_lawful", .glo "has_of", .glo "stands_with", .glo "is_against_there", .glo "is_against", .glo "_law_pool", .glo "_law_draw", .glo "_law_any", .glo "_law_is_int", .glo "_law_deep", .glo "_law_flag", .glo "_law_odd", .glo "_law_spec", .glo "_law_numbers", .glo "_law_kind", .glo "_law_plain_joining"]
def fa_1 : List He.Fa := [.glo "_law_paired", .glo "_law_joining", .glo "_law_multiples", .glo "_law_closed", .glo "_law_letters", .glo "_law_stands", .glo "_law_turned", .glo "_law_one_right", .glo "_law_against_right", .glo "_law_great_right", .glo "law", .glo "Lot", .cls "Lot", .mkr "Lot", .glo "RawLot", .cls "RawLot", .glo "Book", .cls "Book", .mkr "Book", .glo "House", .cls "House", .mkr "House", .noat "Lot" "word", .noat "Lot" "makers", .noat "Lot" "leasts", .noat "Book" "lot", .noat "Book" "tools", .noat "House" "lot", .noat "House" "joining", .noat "House" "kept_letters", .meth "Lot" "keep", .meth "Lot" "__eq__", .meth "House" "keep", .meth "Lot" "__init__", .meth "Book" "__init__", .meth "House" "__init__", .str "SMALL" "abcdefghijklmnopqrstuvwxyz", .int "MOST_SIGNS" 8, .int "LAST_LETTER" 25, .str "ONCE" "once"]
def fa_2 : List He.Fa := [.str "LOAN" "loan", .str "FREE" "free", .str "MORE" "more", .int "MOST_MAKERS" 4, .int "MOST_MAKER" 12, .int "MOST_HEADS" 8, .int "MOST_ROUNDS" 6, .int "MOST_TOOLS" 8, .int "MOST_STANDS" 200, .free "len", .free "isinstance", .free "int", .free "bool", .free "str", .free "tuple", .free "dict", .free "all", .free "any", .free "range", .free "sorted", .free "set", .free "list", .free "max", .free "min", .free "sum", .free "enumerate", .free "abs"]
def fa : List He.Fa := fa_0 ++ fa_1 ++ fa_2
def names_0 : List PySem.Str := ["CountsError", "BadLot", "BadBook", "BadHouse", "NoKind", "NotLet", "SMALL", "MOST_SIGNS", "is_integer", "is_within", "is_pair", "is_name", "LAST_LETTER", "is_kind_of_any_size", "check_kind", "ONCE", "LOAN", "FREE", "MORE", "MOST_MAKERS", "MOST_MAKER", "MOST_HEADS", "MOST_ROUNDS", "leasts_of", "is_sum", "needed_makers", "are_makers", "are_flags", "Lot", "RawLot"]
def names_1 : List PySem.Str := ["holds_raw", "MOST_TOOLS", "are_named", "Book", "check_let", "check_task", "MOST_STANDS", "are_stands", "makers_of", "is_joining", "are_letters", "so_often", "held_of", "bits_of", "stands_of", "looks_of", "is_lawful", "House", "has_of", "stands_with", "is_against_there", "is_against", "_law_pool", "_law_draw", "_law_any", "_law_is_int", "_law_deep", "_law_flag", "_law_odd", "_law_spec"]
def names_2 : List PySem.Str := ["_law_numbers", "_law_kind", "_law_plain_joining", "_law_paired", "_law_joining", "_law_multiples", "_law_closed", "_law_letters", "_law_stands", "_law_turned", "_law_one_right", "_law_against_right", "_law_great_right"]
def names : List PySem.Str := names_0 ++ names_1 ++ names_2
/-- further facts of the written part, as one truth value -/
def x_ha_Lot (K : PySem.W.Frag) : Bool := decide (PySem.W.findIn K (.ref (He.ga K "Lot")) "__class__" = some (some (.builtin "object.__class__")))
def x_hm_Lot (K : PySem.W.Frag) : Bool := decide (PySem.W.mroIn K (He.ga K "Lot") (.type "object") = some true)
def x_ha_RawLot (K : PySem.W.Frag) : Bool := decide (PySem.W.findIn K (.ref (He.ga K "RawLot")) "__class__" = some (some (.builtin "object.__class__")))
def x_hm_RawLot (K : PySem.W.Frag) : Bool := decide (PySem.W.mroIn K (He.ga K "RawLot") (.type "object") = some true)
def x_ha_Book (K : PySem.W.Frag) : Bool := decide (PySem.W.findIn K (.ref (He.ga K "Book")) "__class__" = some (some (.builtin "object.__class__")))
def x_hm_Book (K : PySem.W.Frag) : Bool := decide (PySem.W.mroIn K (He.ga K "Book") (.type "object") = some true)
def x_ha_House (K : PySem.W.Frag) : Bool := decide (PySem.W.findIn K (.ref (He.ga K "House")) "__class__" = some (some (.builtin "object.__class__")))
def x_hm_House (K : PySem.W.Frag) : Bool := decide (PySem.W.mroIn K (He.ga K "House") (.type "object") = some true)
def x_hn (K : PySem.W.Frag) : Bool := decide (PySem.W.specialIn K (.builtin "object.__class__") "__get__" = some (some (.builtin "getset_descriptor.__get__")))
def x_hk (K : PySem.W.Frag) : Bool := decide (PySem.W.takesIn K (.builtin "object.__class__") = some true)
def x_ne_Lot (K : PySem.W.Frag) : Bool := decide (PySem.W.findIn K (.ref (He.ga K "Lot")) "__ne__" = some (some (.builtin "object.__ne__")))
def x_h_NoneType (K : PySem.W.Frag) : Bool := decide (PySem.W.kitOne K (.type "NoneType") (.ref (He.ga K "House")) = some false)
def x_h_bool (K : PySem.W.Frag) : Bool := decide (PySem.W.kitOne K (.type "bool") (.ref (He.ga K "House")) = some false)
def x_h_int (K : PySem.W.Frag) : Bool := decide (PySem.W.kitOne K (.type "int") (.ref (He.ga K "House")) = some false)
def x_h_str (K : PySem.W.Frag) : Bool := decide (PySem.W.kitOne K (.type "str") (.ref (He.ga K "House")) = some false)
def x_h_tuple (K : PySem.W.Frag) : Bool := decide (PySem.W.kitOne K (.type "tuple") (.ref (He.ga K "House")) = some false)
def x_h_list (K : PySem.W.Frag) : Bool := decide (PySem.W.kitOne K (.type "list") (.ref (He.ga K "House")) = some false)
def x_h_dict (K : PySem.W.Frag) : Bool := decide (PySem.W.kitOne K (.type "dict") (.ref (He.ga K "House")) = some false)
def x_h_Book (K : PySem.W.Frag) : Bool := decide (PySem.W.kitOne K (.ref (He.ga K "Book")) (.ref (He.ga K "House")) = some false)
def exB (K : PySem.W.Frag) : Bool := x_ha_Lot K && (x_hm_Lot K && (x_ha_RawLot K && (x_hm_RawLot K && (x_ha_Book K && (x_hm_Book K && (x_ha_House K && (x_hm_House K && (x_hn K && (x_hk K && (x_ne_Lot K && (x_h_NoneType K && (x_h_bool K && (x_h_int K && (x_h_str K && (x_h_tuple K && (x_h_list K && (x_h_dict K && (x_h_Book K))))))))))))))))))
abbrev R : PySem.W.OpenRow := PySem.W.OpenLaw.row PySem.Challenge.rw_usecounts_k31_whole_kinds_that_stands_ha
abbrev hk : PySem.W.Hook := He.hookX 5 fa fn [] [] exB
def ob (s : PySem.W.SharedT) : He.AlX := He.obsX 5 fa fn [] [] exB (HandSHeadRun.getT s)
theorem ob_eq (s : PySem.W.SharedT) : ob s = hk.obs s.abs := He.obsX_eq (HandSHeadRun.getT_eq s)
theorem run (w : World) : HandSHeadRun.RunEq R (PySem.W.view R.prog [81]) hk ob 6000 names w := by
  intro os
  kernel_rfl
theorem txt_of {w : World} {K : PySem.W.Frag} {h h0 : Heap} {mg : Str → Option Value} (X : K.In h) (G : h.Ns mainGlobals mg) (c : He.SaysX fa fn [] [] exB w h0 K) : Txt K mg := by
  have cd : He.SaysD fa fn K := c.t.d
  have e0 : exB K = true := c.more
  obtain ⟨y_ha_Lot, e0⟩ := He.ba e0
  obtain ⟨y_hm_Lot, e0⟩ := He.ba e0
  obtain ⟨y_ha_RawLot, e0⟩ := He.ba e0
  obtain ⟨y_hm_RawLot, e0⟩ := He.ba e0
  obtain ⟨y_ha_Book, e0⟩ := He.ba e0
  obtain ⟨y_hm_Book, e0⟩ := He.ba e0
  obtain ⟨y_ha_House, e0⟩ := He.ba e0
  obtain ⟨y_hm_House, e0⟩ := He.ba e0
  obtain ⟨y_hn, e0⟩ := He.ba e0
  obtain ⟨y_hk, e0⟩ := He.ba e0
  obtain ⟨y_ne_Lot, e0⟩ := He.ba e0
  obtain ⟨y_h_NoneType, e0⟩ := He.ba e0
  obtain ⟨y_h_bool, e0⟩ := He.ba e0
  obtain ⟨y_h_int, e0⟩ := He.ba e0
  obtain ⟨y_h_str, e0⟩ := He.ba e0
  obtain ⟨y_h_tuple, e0⟩ := He.ba e0
  obtain ⟨y_h_list, e0⟩ := He.ba e0
  obtain ⟨y_h_dict, e0⟩ := He.ba e0
  have y_h_Book := e0
  exact ⟨He.free_ok X G (cd.fact 89 rfl),
    He.free_ok X G (cd.fact 90 rfl),
    He.free_ok X G (cd.fact 91 rfl),
    He.free_ok X G (cd.fact 92 rfl),
    He.free_ok X G (cd.fact 93 rfl),
    He.free_ok X G (cd.fact 94 rfl),
    He.free_ok X G (cd.fact 95 rfl),
    He.free_ok X G (cd.fact 96 rfl),
    He.free_ok X G (cd.fact 97 rfl),
    He.free_ok X G (cd.fact 98 rfl),
    He.free_ok X G (cd.fact 99 rfl),
    He.free_ok X G (cd.fact 100 rfl),
    He.free_ok X G (cd.fact 101 rfl),
    He.free_ok X G (cd.fact 102 rfl),
    He.free_ok X G (cd.fact 103 rfl),
    He.free_ok X G (cd.fact 104 rfl),
    He.free_ok X G (cd.fact 105 rfl),
    He.free_ok X G (cd.fact 106 rfl),
    He.str_ok X G (cd.fact 76 rfl),
    He.int_ok X G (cd.fact 77 rfl),
    He.int_ok X G (cd.fact 78 rfl),
    He.str_ok X G (cd.fact 79 rfl),
    He.str_ok X G (cd.fact 80 rfl),
    He.str_ok X G (cd.fact 81 rfl),
    He.str_ok X G (cd.fact 82 rfl),
    He.int_ok X G (cd.fact 83 rfl),
    He.int_ok X G (cd.fact 84 rfl),
    He.int_ok X G (cd.fact 85 rfl),
    He.int_ok X G (cd.fact 86 rfl),
    He.int_ok X G (cd.fact 87 rfl),
    He.int_ok X G (cd.fact 88 rfl),
    He.glo_ok X G (cd.fact 51 rfl),
    ⟨He.cls_ok (cd.fact 52 rfl), of_decide_eq_true y_ha_Lot, of_decide_eq_true y_hn, of_decide_eq_true y_hk, of_decide_eq_true y_hm_Lot⟩,
    He.glo_ok X G (cd.fact 54 rfl),
    ⟨He.cls_ok (cd.fact 55 rfl), of_decide_eq_true y_ha_RawLot, of_decide_eq_true y_hn, of_decide_eq_true y_hk, of_decide_eq_true y_hm_RawLot⟩,
    He.glo_ok X G (cd.fact 56 rfl),
    ⟨He.cls_ok (cd.fact 57 rfl), of_decide_eq_true y_ha_Book, of_decide_eq_true y_hn, of_decide_eq_true y_hk, of_decide_eq_true y_hm_Book⟩,
    He.glo_ok X G (cd.fact 59 rfl),
    ⟨He.cls_ok (cd.fact 60 rfl), of_decide_eq_true y_ha_House, of_decide_eq_true y_hn, of_decide_eq_true y_hk, of_decide_eq_true y_hm_House⟩,
    He.mkr_ok (cd.fact 53 rfl),
    He.mkr_ok (cd.fact 58 rfl),
    He.mkr_ok (cd.fact 61 rfl),
    He.noat_ok (cd.fact 62 rfl),
    He.noat_ok (cd.fact 63 rfl),
    He.noat_ok (cd.fact 64 rfl),
    He.noat_ok (cd.fact 65 rfl),
    He.noat_ok (cd.fact 66 rfl),
    He.noat_ok (cd.fact 67 rfl),
    He.noat_ok (cd.fact 68 rfl),
    He.noat_ok (cd.fact 69 rfl),
    He.meth_ok (cd.fact 70 rfl),
    He.meth_ok (cd.fact 71 rfl),
    He.meth_ok (cd.fact 72 rfl),
    He.meth_ok (cd.fact 73 rfl),
    He.meth_ok (cd.fact 74 rfl),
    He.meth_ok (cd.fact 75 rfl),
    of_decide_eq_true y_ne_Lot,
    of_decide_eq_true y_h_NoneType,
    of_decide_eq_true y_h_bool,
    of_decide_eq_true y_h_int,
    of_decide_eq_true y_h_str,
    of_decide_eq_true y_h_tuple,
    of_decide_eq_true y_h_list,
    of_decide_eq_true y_h_dict,
    of_decide_eq_true y_h_Book,
    ⟨cd.def_ 0 (d := dd_is_integer) rfl, He.glo_ok X G (cd.fact 0 rfl)⟩,
    ⟨cd.def_ 1 (d := dd_is_within) rfl, He.glo_ok X G (cd.fact 1 rfl)⟩,
    ⟨cd.def_ 2 (d := dd_is_pair) rfl, He.glo_ok X G (cd.fact 2 rfl)⟩,
    ⟨cd.def_ 3 (d := dd_is_name) rfl, He.glo_ok X G (cd.fact 3 rfl)⟩,
    ⟨cd.def_ 4 (d := dd_is_kind_of_any_size) rfl, He.glo_ok X G (cd.fact 4 rfl)⟩,
    ⟨cd.def_ 5 (d := dd_check_kind) rfl, He.glo_ok X G (cd.fact 5 rfl)⟩,
    ⟨cd.def_ 6 (d := dd_leasts_of) rfl, He.glo_ok X G (cd.fact 6 rfl)⟩,
    ⟨cd.def_ 7 (d := dd_is_sum) rfl, He.glo_ok X G (cd.fact 7 rfl)⟩,
    ⟨cd.def_ 8 (d := dd_needed_makers) rfl, He.glo_ok X G (cd.fact 8 rfl)⟩,
    ⟨cd.def_ 9 (d := dd_are_makers) rfl, He.glo_ok X G (cd.fact 9 rfl)⟩,
    ⟨cd.def_ 10 (d := dd_are_flags) rfl, He.glo_ok X G (cd.fact 10 rfl)⟩,
    ⟨cd.def_ 11 (d := dd_Lot_init) rfl⟩,
    ⟨cd.def_ 12 (d := dd_Lot_keep) rfl⟩,
    ⟨cd.def_ 13 (d := dd_Lot_eq) rfl⟩,
    ⟨cd.def_ 14 (d := dd_RawLot_init) rfl⟩,
    ⟨cd.def_ 15 (d := dd_RawLot_eq) rfl⟩,
    ⟨cd.def_ 16 (d := dd_holds_raw) rfl, He.glo_ok X G (cd.fact 11 rfl)⟩,
    ⟨cd.def_ 17 (d := dd_are_named) rfl, He.glo_ok X G (cd.fact 12 rfl)⟩,
    ⟨cd.def_ 18 (d := dd_Book_init) rfl⟩,
    ⟨cd.def_ 19 (d := dd_Book_eq) rfl⟩,
    ⟨cd.def_ 20 (d := dd_check_let) rfl, He.glo_ok X G (cd.fact 13 rfl)⟩,
    ⟨cd.def_ 21 (d := dd_check_task) rfl, He.glo_ok X G (cd.fact 14 rfl)⟩,
    ⟨cd.def_ 22 (d := dd_are_stands) rfl, He.glo_ok X G (cd.fact 15 rfl)⟩,
    ⟨cd.def_ 23 (d := dd_makers_of) rfl, He.glo_ok X G (cd.fact 16 rfl)⟩,
    ⟨cd.def_ 24 (d := dd_is_joining) rfl, He.glo_ok X G (cd.fact 17 rfl)⟩,
    ⟨cd.def_ 25 (d := dd_are_letters) rfl, He.glo_ok X G (cd.fact 18 rfl)⟩,
    ⟨cd.def_ 26 (d := dd_so_often) rfl, He.glo_ok X G (cd.fact 19 rfl)⟩,
    ⟨cd.def_ 27 (d := dd_held_of) rfl, He.glo_ok X G (cd.fact 20 rfl)⟩,
    ⟨cd.def_ 28 (d := dd_bits_of) rfl, He.glo_ok X G (cd.fact 21 rfl)⟩,
    ⟨cd.def_ 29 (d := dd_stands_of) rfl, He.glo_ok X G (cd.fact 22 rfl)⟩,
    ⟨cd.def_ 30 (d := dd_looks_of) rfl, He.glo_ok X G (cd.fact 23 rfl)⟩,
    ⟨cd.def_ 31 (d := dd_is_lawful) rfl, He.glo_ok X G (cd.fact 24 rfl)⟩,
    ⟨cd.def_ 32 (d := dd_House_init) rfl⟩,
    ⟨cd.def_ 33 (d := dd_House_keep) rfl⟩,
    ⟨cd.def_ 34 (d := dd_House_eq) rfl⟩,
    ⟨cd.def_ 35 (d := dd_has_of) rfl, He.glo_ok X G (cd.fact 25 rfl)⟩,
    ⟨cd.def_ 36 (d := dd_stands_with) rfl, He.glo_ok X G (cd.fact 26 rfl)⟩,
    ⟨cd.def_ 37 (d := dd_is_against_there) rfl, He.glo_ok X G (cd.fact 27 rfl)⟩,
    ⟨cd.def_ 38 (d := dd_is_against) rfl, He.glo_ok X G (cd.fact 28 rfl)⟩,
    ⟨cd.def_ 39 (d := dd_law_pool) rfl, He.glo_ok X G (cd.fact 29 rfl)⟩,
    ⟨cd.def_ 40 (d := dd_law_draw) rfl, He.glo_ok X G (cd.fact 30 rfl)⟩,
    ⟨cd.def_ 41 (d := dd_law_any) rfl, He.glo_ok X G (cd.fact 31 rfl)⟩,
    ⟨cd.def_ 42 (d := dd_law_is_int) rfl, He.glo_ok X G (cd.fact 32 rfl)⟩,
    ⟨cd.def_ 43 (d := dd_law_deep) rfl, He.glo_ok X G (cd.fact 33 rfl)⟩,
    ⟨cd.def_ 44 (d := dd_law_flag) rfl, He.glo_ok X G (cd.fact 34 rfl)⟩,
    ⟨cd.def_ 45 (d := dd_law_odd) rfl, He.glo_ok X G (cd.fact 35 rfl)⟩,
    ⟨cd.def_ 46 (d := dd_law_spec) rfl, He.glo_ok X G (cd.fact 36 rfl)⟩,
    ⟨cd.def_ 47 (d := dd_law_numbers) rfl, He.glo_ok X G (cd.fact 37 rfl)⟩,
    ⟨cd.def_ 48 (d := dd_law_kind) rfl, He.glo_ok X G (cd.fact 38 rfl)⟩,
    ⟨cd.def_ 49 (d := dd_law_plain_joining) rfl, He.glo_ok X G (cd.fact 39 rfl)⟩,
    ⟨cd.def_ 50 (d := dd_law_paired) rfl, He.glo_ok X G (cd.fact 40 rfl)⟩,
    ⟨cd.def_ 51 (d := dd_law_joining) rfl, He.glo_ok X G (cd.fact 41 rfl)⟩,
    ⟨cd.def_ 52 (d := dd_law_multiples) rfl, He.glo_ok X G (cd.fact 42 rfl)⟩,
    ⟨cd.def_ 53 (d := dd_law_closed) rfl, He.glo_ok X G (cd.fact 43 rfl)⟩,
    ⟨cd.def_ 54 (d := dd_law_letters) rfl, He.glo_ok X G (cd.fact 44 rfl)⟩,
    ⟨cd.def_ 55 (d := dd_law_stands) rfl, He.glo_ok X G (cd.fact 45 rfl)⟩,
    ⟨cd.def_ 56 (d := dd_law_turned) rfl, He.glo_ok X G (cd.fact 46 rfl)⟩,
    ⟨cd.def_ 57 (d := dd_law_one_right) rfl, He.glo_ok X G (cd.fact 47 rfl)⟩,
    ⟨cd.def_ 58 (d := dd_law_against_right) rfl, He.glo_ok X G (cd.fact 48 rfl)⟩,
    ⟨cd.def_ 59 (d := dd_law_great_right) rfl, He.glo_ok X G (cd.fact 49 rfl)⟩,
    ⟨cd.def_ 60 (d := dd_law) rfl, He.glo_ok X G (cd.fact 50 rfl)⟩⟩
end UC
set_option Elab.async false
set_option linter.all false
set_option maxRecDepth 100000
/-! Joined stands: tables, multiples. -/
namespace UC
/-- u joined with v, off a table -/
def jn (J : List (List Nat)) (u v : Nat) : Nat := (J.getD u []).getD v 0
structure Mon (J : List (List Nat)) : Prop where
  pos : 0 < J.length
  row : ∀ r ∈ J, r.length = J.length
  lt : ∀ u v, u < J.length → v < J.length → jn J u v < J.length
  id : ∀ v, v < J.length → jn J 0 v = v
  comm : ∀ u v, u < J.length → v < J.length → jn J u v = jn J v u
  assoc : ∀ u v x, u < J.length → v < J.length → x < J.length → jn J (jn J u v) x = jn J u (jn J v x)
/-- so many times a stand -/
def ml (J : List (List Nat)) : Nat → Nat → Nat
  | 0, _ => 0
  | s + 1, v => jn J (ml J s v) v
section
variable {J : List (List Nat)}
theorem Mon.idr (M : Mon J) {v : Nat} (h : v < J.length) : jn J v 0 = v := (M.comm v 0 h M.pos).trans (M.id v h)
theorem Mon.ml_lt (M : Mon J) {v : Nat} (h : v < J.length) : ∀ s, ml J s v < J.length
  | 0 => M.pos
  | s + 1 => M.lt _ _ (M.ml_lt h s) h
theorem Mon.ml_one (M : Mon J) {v : Nat} (h : v < J.length) : ml J 1 v = v := M.id v h
theorem Mon.ml_add (M : Mon J) {v : Nat} (h : v < J.length) (s : Nat) : ∀ t, ml J (s + t) v = jn J (ml J s v) (ml J t v)
  | 0 => (M.idr (M.ml_lt h s)).symm
  | t + 1 => by
    show jn J (ml J (s + t) v) v = jn J (ml J s v) (jn J (ml J t v) v)
    rw [M.ml_add h s t, M.assoc _ _ _ (M.ml_lt h s) (M.ml_lt h t) h]
theorem Mon.ml_dbl (M : Mon J) {p : Nat} (h : p < J.length) : ∀ k, ml J k (jn J p p) = ml J (2 * k) p
  | 0 => rfl
  | k + 1 => by
    show jn J (ml J k (jn J p p)) (jn J p p) = jn J (jn J (ml J (2 * k) p) p) p
    rw [M.ml_dbl h k, M.assoc _ _ _ (M.ml_lt h _) h h]
/-- one turn of the doubling loop -/
theorem Mon.turn (M : Mon J) {f p t : Nat} (hf : f < J.length) (hp : p < J.length) : jn J (if t % 2 = 1 then jn J f p else f) (ml J (t / 2) (jn J p p)) = jn J f (ml J t p) := by
  rw [M.ml_dbl hp]
  by_cases h : t % 2 = 1
  · rw [if_pos h, M.assoc _ _ _ hf hp (M.ml_lt hp _)]
    have e : t = 1 + 2 * (t / 2) := by omega
    have e2 : ml J t p = jn J (ml J 1 p) (ml J (2 * (t / 2)) p) := by rw [← M.ml_add hp, ← e]
    rw [e2, M.ml_one hp]
  · rw [if_neg h]
    have e : 2 * (t / 2) = t := by omega
    rw [e]
/-- a row and its item, at places that are there -/
theorem Mon.at_row (M : Mon J) {u v : Nat} (hu : u < J.length) (hv : v < J.length) : ∃ r, J[u]? = some r ∧ r[v]? = some (jn J u v) := by
  have h1 : J[u]? = some J[u] := List.getElem?_eq_getElem hu
  have h2 : (J[u]).length = J.length := M.row _ (List.getElem_mem hu)
  have hv2 : v < (J[u]).length := by omega
  refine ⟨J[u], h1, ?_⟩
  have e : J.getD u [] = J[u] := by rw [List.getD_eq_getElem?_getD, h1, Option.getD_some]
  unfold jn
  rw [e, List.getD_eq_getElem?_getD, List.getElem?_eq_getElem hv2, Option.getD_some]
end
end UC
set_option Elab.async false
set_option linter.all false
set_option maxRecDepth 100000
/-! Ones of a number. -/
namespace UC
/-- ascending, each once -/
abbrev Asc (xs : List Nat) : Prop := xs.Pairwise (· < ·)
def bt (xs : List Nat) : Nat := (xs.map fun x => 2 ^ x).sum
theorem bt_nil : bt [] = 0 := rfl
theorem bt_snoc (xs : List Nat) (x : Nat) : bt (xs ++ [x]) = 2 ^ x + bt xs := by
  unfold bt
  rw [List.map_append, List.sum_append]
  simp
  omega
theorem asc_snoc {xs : List Nat} {x : Nat} (h : Asc (xs ++ [x])) : Asc xs ∧ ∀ y ∈ xs, y < x := by
  obtain ⟨h1, _, h3⟩ := List.pairwise_append.mp h
  exact ⟨h1, fun y hy => h3 y hy x (by simp)⟩
theorem asc_put {xs : List Nat} {x : Nat} (h : Asc xs) (l : ∀ y ∈ xs, y < x) : Asc (xs ++ [x]) :=
  List.pairwise_append.mpr ⟨h, by simp, fun y hy z hz => by simp at hz; subst hz; exact l y hy⟩
theorem snoc_ind {p : List Nat → Prop} (h0 : p []) (hs : ∀ xs x, p xs → p (xs ++ [x])) (xs : List Nat) : p xs := by
  have h : ∀ n (ys : List Nat), ys.length = n → p ys := by
    intro n
    induction n with
    | zero => intro ys e; rw [List.eq_nil_of_length_eq_zero e]; exact h0
    | succ n ih =>
      intro ys e
      have hne : ys ≠ [] := by intro q; rw [q] at e; simp at e
      rw [← List.dropLast_concat_getLast hne]
      exact hs _ _ (ih _ (by rw [List.length_dropLast, e]; rfl))
  exact h _ xs rfl
theorem bt_lt {n : Nat} (xs : List Nat) : Asc xs → (∀ x ∈ xs, x < n) → bt xs < 2 ^ n := by
  refine snoc_ind (p := fun xs => ∀ n, Asc xs → (∀ x ∈ xs, x < n) → bt xs < 2 ^ n) ?_ ?_ xs n
  · intro n _ _
    exact Nat.two_pow_pos n
  · intro ys x ih n ha hb
    obtain ⟨h1, h2⟩ := asc_snoc ha
    have a := ih x h1 h2
    have b : 2 ^ (x + 1) ≤ 2 ^ n := Nat.pow_le_pow_right (by decide) (hb x (by simp))
    rw [bt_snoc]
    rw [Nat.pow_succ] at b
    omega
theorem bt_bit (xs : List Nat) : Asc xs → ∀ i, (bt xs).testBit i = decide (i ∈ xs) := by
  refine snoc_ind (p := fun xs => Asc xs → ∀ i, (bt xs).testBit i = decide (i ∈ xs)) ?_ ?_ xs
  · intro _ i
    rw [bt_nil, Nat.zero_testBit]
    simp
  · intro ys x ih ha i
    obtain ⟨h1, h2⟩ := asc_snoc ha
    have lt := bt_lt ys h1 h2
    rw [bt_snoc]
    rcases Nat.lt_trichotomy i x with h | h | h
    · rw [Nat.testBit_two_pow_add_gt h, ih h1]
      have : i ≠ x := by omega
      simp [this]
    · subst h
      rw [Nat.testBit_two_pow_add_eq, ih h1]
      have : i ∉ ys := fun m => Nat.lt_irrefl _ (h2 _ m)
      simp [this]
    · have b : 2 ^ (x + 1) ≤ 2 ^ i := Nat.pow_le_pow_right (by decide) h
      rw [Nat.pow_succ] at b
      rw [Nat.testBit_lt_two_pow (by omega)]
      have n1 : i ∉ ys := fun m => by have := h2 _ m; omega
      have n2 : i ≠ x := by omega
      simp [n1, n2]
theorem asc_ext {xs ys : List Nat} (hx : Asc xs) (hy : Asc ys) (h : ∀ i, i ∈ xs ↔ i ∈ ys) : xs = ys := by
  induction xs generalizing ys with
  | nil =>
    cases ys with
    | nil => rfl
    | cons y ys => exact absurd ((h y).mpr List.mem_cons_self) (by simp)
  | cons x xs ih =>
    cases ys with
    | nil => exact absurd ((h x).mp List.mem_cons_self) (by simp)
    | cons y ys =>
      obtain ⟨a1, a2⟩ := List.pairwise_cons.mp hx
      obtain ⟨b1, b2⟩ := List.pairwise_cons.mp hy
      have e : x = y := by
        rcases List.mem_cons.mp ((h x).mp List.mem_cons_self) with q | q
        · exact q
        · rcases List.mem_cons.mp ((h y).mpr List.mem_cons_self) with r | r
          · exact r.symm
          · have := b1 x q
            have := a1 y r
            omega
      subst e
      rw [ih a2 b2 fun i => ?_]
      constructor
      · intro m
        rcases List.mem_cons.mp ((h i).mp (List.mem_cons_of_mem _ m)) with q | q
        · have := a1 i m
          omega
        · exact q
      · intro m
        rcases List.mem_cons.mp ((h i).mpr (List.mem_cons_of_mem _ m)) with q | q
        · have := b1 i m
          omega
        · exact q
/-- the ones of a number, of n places -/
def onesOf (b n : Nat) : List Nat := (List.range n).filter fun i => b.testBit i
theorem asc_range (n : Nat) : Asc (List.range n) := List.pairwise_lt_range
theorem asc_filter {p : Nat → Bool} {xs : List Nat} (h : Asc xs) : Asc (xs.filter p) := h.filter p
theorem ones_bt {xs : List Nat} {n : Nat} (ha : Asc xs) (hb : ∀ x ∈ xs, x < n) : onesOf (bt xs) n = xs := by
  refine asc_ext (asc_filter (asc_range n)) ha fun i => ?_
  unfold onesOf
  rw [List.mem_filter, bt_bit xs ha, List.mem_range, decide_eq_true_eq]
  exact ⟨fun h => h.2, fun h => ⟨hb i h, h⟩⟩
theorem bt_filter_ext {n : Nat} {b : Nat} {p : Nat → Bool} (hb : b < 2 ^ n) (h : ∀ i, i < n → b.testBit i = p i) : b = bt ((List.range n).filter p) := by
  apply Nat.eq_of_testBit_eq
  intro i
  rw [bt_bit _ (asc_filter (asc_range n))]
  by_cases hi : i < n
  · rw [h i hi]
    by_cases q : p i = true
    · simp [q, hi]
    · simp [q]
  · have z : 2 ^ n ≤ 2 ^ i := Nat.pow_le_pow_right (by decide) (by omega)
    rw [Nat.testBit_lt_two_pow (by omega)]
    simp [hi]
end UC
set_option Elab.async false
set_option linter.all false
set_option maxRecDepth 100000
/-! Least sums by rests: why the loop ends. -/
namespace UC
theorem sum_set (f : Option Nat → Nat) : ∀ (l : List (Option Nat)) (j : Nat) (old x : Option Nat), l[j]? = some old → ((l.set j x).map f).sum + f old = (l.map f).sum + f x
  | [], j, old, x, h => by simp at h
  | a :: l, 0, old, x, h => by
    have e : a = old := by simpa using h
    subst e
    simp
    omega
  | a :: l, j + 1, old, x, h => by
    have ih := sum_set f l j old x (by simpa using h)
    rw [List.set_cons_succ, List.map_cons, List.map_cons, List.sum_cons, List.sum_cons]
    omega
def cntL (l : List (Option Nat)) : Nat := (l.map fun o => if o.isSome then 1 else 0).sum
def wtL (C : Nat) (l : List (Option Nat)) : Nat := (l.map fun o => o.getD C).sum
theorem cnt_le : ∀ l : List (Option Nat), cntL l ≤ l.length
  | [] => Nat.le_refl _
  | a :: l => by
    have := cnt_le l
    unfold cntL at this ⊢
    cases a <;> simp <;> omega
theorem cnt_lt : ∀ (l : List (Option Nat)) (j : Nat), l[j]? = some none → cntL l < l.length
  | [], j, h => by simp at h
  | a :: l, 0, h => by
    have e : a = none := by simpa using h
    subst e
    have := cnt_le l
    unfold cntL at this ⊢
    simp
    omega
  | a :: l, j + 1, h => by
    have := cnt_lt l j (by simpa using h)
    unfold cntL at this ⊢
    cases a <;> simp <;> omega
/-- no value is greater than the steps that led to it -/
structure GoodL (F M : Nat) (l : List (Option Nat)) : Prop where
  len : l.length = F
  bound : ∀ (j v : Nat), l[j]? = some (some v) → v + M ≤ cntL l * M
theorem GoodL.put {F M : Nat} {l : List (Option Nat)} (g : GoodL F M l) {r j v m : Nat} {old : Option Nat} (hr : l[r]? = some (some v)) (hj : l[j]? = some old) (h1 : 0 < m) (h2 : m ≤ M) (ho : ∀ k, old = some k → v + m < k) :
    GoodL F M (l.set j (some (v + m))) ∧ wtL (F * M) (l.set j (some (v + m))) < wtL (F * M) l := by
  have b := g.bound r v hr
  have c : cntL (l.set j (some (v + m))) + (if old.isSome then 1 else 0) = cntL l + 1 := sum_set (fun o => if o.isSome then 1 else 0) l j old (some (v + m)) hj
  have d : wtL (F * M) (l.set j (some (v + m))) + old.getD (F * M) = wtL (F * M) l + (v + m) := sum_set (fun o => o.getD (F * M)) l j old (some (v + m)) hj
  have jl := (List.getElem?_eq_some_iff.mp hj).1
  cases old with
  | none =>
    have lt := cnt_lt l j hj
    rw [g.len] at lt
    have cs : cntL (l.set j (some (v + m))) = cntL l + 1 := c
    have d : wtL (F * M) (l.set j (some (v + m))) + F * M = wtL (F * M) l + (v + m) := d
    have mul : (cntL l + 1) * M ≤ F * M := Nat.mul_le_mul_right M lt
    rw [Nat.succ_mul] at mul
    refine ⟨⟨by rw [List.length_set, g.len], fun i u hi => ?_⟩, ?_⟩
    · rw [cs, Nat.succ_mul]
      by_cases e : j = i
      · subst e
        rw [List.getElem?_set_self jl] at hi
        have : v + m = u := by simpa using hi
        omega
      · rw [List.getElem?_set_ne e] at hi
        have := g.bound i u hi
        omega
    · omega
  | some k =>
    have lt := ho k rfl
    have cs : cntL (l.set j (some (v + m))) = cntL l := Nat.succ.inj c
    have d : wtL (F * M) (l.set j (some (v + m))) + k = wtL (F * M) l + (v + m) := d
    refine ⟨⟨by rw [List.length_set, g.len], fun i u hi => ?_⟩, ?_⟩
    · rw [cs]
      by_cases e : j = i
      · subst e
        rw [List.getElem?_set_self jl] at hi
        have e2 : v + m = u := by simpa using hi
        have := g.bound j k hj
        omega
      · rw [List.getElem?_set_ne e] at hi
        exact g.bound i u hi
    · omega
theorem goodL_start {F M : Nat} (h : 0 < F) : GoodL F M ((List.replicate F none).set 0 (some 0)) := by
  refine ⟨by simp, fun j v hj => ?_⟩
  have c : cntL ((List.replicate F none).set 0 (some 0)) = cntL (List.replicate F none) + 1 := sum_set (fun o => if o.isSome then 1 else 0) (List.replicate F none) 0 none (some 0) (by simp [h])
  have z : ∀ n, cntL (List.replicate n none) = 0 := fun n => by
    induction n with
    | zero => rfl
    | succ n ih =>
      show 0 + cntL (List.replicate n none) = 0
      rw [ih]
  have cs : cntL ((List.replicate F none).set 0 (some 0)) = 1 := by rw [c, z]
  rw [cs]
  by_cases e : 0 = j
  · subst e
    rw [List.getElem?_set_self (by simpa using h)] at hj
    have : (0 : Nat) = v := by simpa using hj
    omega
  · rw [List.getElem?_set_ne e, List.getElem?_replicate] at hj
    split at hj <;> cases hj
end UC
set_option Elab.async false
set_option linter.all false
set_option maxRecDepth 100000
/-! Tables that are joinings: plain ones, pairs, numbered anew. -/
namespace UC
def tab (n : Nat) (f : Nat → Nat → Nat) : List (List Nat) := (List.range n).map fun u => (List.range n).map fun v => f u v
theorem tab_len (n : Nat) (f : Nat → Nat → Nat) : (tab n f).length = n := by unfold tab; rw [List.length_map, List.length_range]
theorem tab_row {n : Nat} {f : Nat → Nat → Nat} {u : Nat} (h : u < n) : (tab n f)[u]? = some ((List.range n).map fun v => f u v) := by
  unfold tab
  rw [List.getElem?_map, List.getElem?_range h]
  rfl
theorem tab_jn {n : Nat} {f : Nat → Nat → Nat} {u v : Nat} (hu : u < n) (hv : v < n) : jn (tab n f) u v = f u v := by
  unfold jn
  rw [List.getD_eq_getElem?_getD (l := tab n f), tab_row hu, Option.getD_some, List.getD_eq_getElem?_getD, List.getElem?_map, List.getElem?_range hv]
  rfl
theorem tab_mon {n : Nat} {f : Nat → Nat → Nat} (pos : 0 < n) (lt : ∀ u v, u < n → v < n → f u v < n) (id : ∀ v, v < n → f 0 v = v) (comm : ∀ u v, u < n → v < n → f u v = f v u)
    (assoc : ∀ u v x, u < n → v < n → x < n → f (f u v) x = f u (f v x)) : Mon (tab n f) := by
  have e := tab_len n f
  refine ⟨by rw [e]; exact pos, fun r hr => ?_, fun u v hu hv => ?_, fun v hv => ?_, fun u v hu hv => ?_, fun u v x hu hv hx => ?_⟩
  · rw [e]
    obtain ⟨u, _, rfl⟩ := List.mem_map.mp hr
    rw [List.length_map, List.length_range]
  · rw [e] at hu hv ⊢
    rw [tab_jn hu hv]
    exact lt u v hu hv
  · rw [e] at hv
    rw [tab_jn pos hv, id v hv]
  · rw [e] at hu hv
    rw [tab_jn hu hv, tab_jn hv hu, comm u v hu hv]
  · rw [e] at hu hv hx
    rw [tab_jn hu hv, tab_jn hv hx, tab_jn (lt u v hu hv) hx, tab_jn hu (lt v x hv hx), assoc u v x hu hv hx]
/-- the plain ones -/
def plF (k n a u v : Nat) : Nat :=
  if k = 0 then (u + v) % n else if k = 1 then min (u + v) (n - 1) else if k = 2 then max u v else if u + v ≥ n then a + (u + v - a) % (n - a) else u + v
def monB (n : Nat) (f : Nat → Nat → Nat) : Bool :=
  (List.range n).all fun u => (List.range n).all fun v => decide (f u v < n) && (decide (f 0 v = v) && (decide (f u v = f v u) && (List.range n).all fun x => decide (f (f u v) x = f u (f v x))))
theorem monB_mon {n : Nat} {f : Nat → Nat → Nat} (pos : 0 < n) (h : monB n f = true) : Mon (tab n f) := by
  unfold monB at h
  have all : ∀ u v, u < n → v < n → f u v < n ∧ f 0 v = v ∧ f u v = f v u ∧ ∀ x, x < n → f (f u v) x = f u (f v x) := fun u v hu hv => by
    have h1 := List.all_eq_true.mp (List.all_eq_true.mp h u (List.mem_range.mpr hu)) v (List.mem_range.mpr hv)
    rw [Bool.and_eq_true, Bool.and_eq_true, Bool.and_eq_true] at h1
    exact ⟨of_decide_eq_true h1.1, of_decide_eq_true h1.2.1, of_decide_eq_true h1.2.2.1, fun x hx => of_decide_eq_true (List.all_eq_true.mp h1.2.2.2 x (List.mem_range.mpr hx))⟩
  exact tab_mon pos (fun u v a b => (all u v a b).1) (fun v a => (all v v a a).2.1) (fun u v a b => (all u v a b).2.2.1) fun u v x a b c => (all u v a b).2.2.2 x c
theorem plain_all : (List.range 4).all (fun k => (List.range 6).all fun n => (List.range n).all fun a => monB n (plF k n a)) = true := by decide +kernel
theorem plain_mon {k n a : Nat} (hk : k < 4) (hn : n ≤ 5) (ha : a < n) : Mon (tab n (plF k n a)) :=
  monB_mon (by omega) (List.all_eq_true.mp (List.all_eq_true.mp (List.all_eq_true.mp plain_all k (List.mem_range.mpr hk)) n (List.mem_range.mpr (by omega))) a (List.mem_range.mpr ha))
/-- pairs -/
def prF (A B : List (List Nat)) (u v : Nat) : Nat := jn A (u / B.length) (v / B.length) * B.length + jn B (u % B.length) (v % B.length)
theorem pair_mon {A B : List (List Nat)} (MA : Mon A) (MB : Mon B) : Mon (tab (A.length * B.length) (prF A B)) := by
  have pb := MB.pos
  have pa := MA.pos
  have dv : ∀ u, u < A.length * B.length → u / B.length < A.length := fun u h => Nat.div_lt_of_lt_mul (by rw [Nat.mul_comm]; exact h)
  have md : ∀ u, u % B.length < B.length := fun u => Nat.mod_lt _ pb
  have fd : ∀ x y, y < B.length → (x * B.length + y) / B.length = x := fun x y h => by
    rw [Nat.mul_comm, Nat.mul_add_div pb, Nat.div_eq_of_lt h, Nat.add_zero]
  have fm : ∀ x y, y < B.length → (x * B.length + y) % B.length = y := fun x y h => by
    rw [Nat.mul_comm, Nat.mul_add_mod, Nat.mod_eq_of_lt h]
  have two : ∀ u, u / B.length * B.length + u % B.length = u := fun u => by
    rw [Nat.mul_comm]
    exact Nat.div_add_mod u B.length
  refine tab_mon (Nat.mul_pos pa pb) (fun u v hu hv => ?_) (fun v hv => ?_) (fun u v hu hv => ?_) fun u v x hu hv hx => ?_
  · have h1 := MA.lt _ _ (dv u hu) (dv v hv)
    have h2 := MB.lt _ _ (md u) (md v)
    unfold prF
    have h3 : (jn A (u / B.length) (v / B.length) + 1) * B.length ≤ A.length * B.length := Nat.mul_le_mul_right _ h1
    rw [Nat.succ_mul] at h3
    omega
  · unfold prF
    rw [Nat.zero_div, Nat.zero_mod, MA.id _ (dv v hv), MB.id _ (md v), two]
  · unfold prF
    rw [MA.comm _ _ (dv u hu) (dv v hv), MB.comm _ _ (md u) (md v)]
  · unfold prF
    rw [fd _ _ (MB.lt _ _ (md u) (md v)), fm _ _ (MB.lt _ _ (md u) (md v)), fd _ _ (MB.lt _ _ (md v) (md x)), fm _ _ (MB.lt _ _ (md v) (md x)), MA.assoc _ _ _ (dv u hu) (dv v hv) (dv x hx), MB.assoc _ _ _ (md u) (md v) (md x)]
/-- numbered anew: O the old number of a new one, P the new number of an old one -/
structure Renum (n : Nat) (O P : Nat → Nat) : Prop where
  o : ∀ i, i < n → O i < n
  p : ∀ u, u < n → P u < n
  op : ∀ u, u < n → O (P u) = u
  po : ∀ i, i < n → P (O i) = i
  z : O 0 = 0
def rnF (J : List (List Nat)) (O P : Nat → Nat) (i j : Nat) : Nat := P (jn J (O i) (O j))
theorem renum_mon {J : List (List Nat)} {O P : Nat → Nat} (M : Mon J) (R : Renum J.length O P) : Mon (tab J.length (rnF J O P)) := by
  refine tab_mon M.pos (fun u v hu hv => R.p _ (M.lt _ _ (R.o u hu) (R.o v hv))) (fun v hv => ?_) (fun u v hu hv => ?_) fun u v x hu hv hx => ?_
  · unfold rnF
    rw [R.z, M.id _ (R.o v hv), R.po v hv]
  · unfold rnF
    rw [M.comm _ _ (R.o u hu) (R.o v hv)]
  · unfold rnF
    rw [R.op _ (M.lt _ _ (R.o u hu) (R.o v hv)), R.op _ (M.lt _ _ (R.o v hv) (R.o x hx)), M.assoc _ _ _ (R.o u hu) (R.o v hv) (R.o x hx)]
/-- the addition of rests, of any size -/
theorem rest_mon {n : Nat} (pos : 0 < n) : Mon (tab n fun u v => (u + v) % n) := by
  refine tab_mon pos (fun u v _ _ => Nat.mod_lt _ pos) (fun v hv => by rw [Nat.zero_add, Nat.mod_eq_of_lt hv]) (fun u v _ _ => by rw [Nat.add_comm]) fun u v x _ _ _ => ?_
  rw [Nat.mod_add_mod, Nat.add_mod_mod, Nat.add_assoc]
end UC
set_option Elab.async false
set_option linter.all false
set_option maxRecDepth 100000
/-! Orders: what the pops leave, places. -/
namespace UC
theorem erase_map {α β : Type} (f : α → β) (l : List α) (i : Nat) : (l.map f).eraseIdx i = (l.eraseIdx i).map f := by
  rw [List.eraseIdx_eq_take_drop_succ, List.eraseIdx_eq_take_drop_succ, List.map_append, List.map_take, List.map_drop]
theorem erase_perm {l : List Nat} {i y : Nat} (h : l[i]? = some y) : (y :: l.eraseIdx i).Perm l := by
  obtain ⟨hi, e⟩ := List.getElem?_eq_some_iff.mp h
  rw [List.eraseIdx_eq_take_drop_succ]
  have e2 : l = l.take i ++ y :: l.drop (i + 1) := by
    rw [← e, List.getElem_cons_drop, List.take_append_drop]
  exact (List.perm_middle.symm).trans (List.Perm.of_eq e2.symm)
/-- one more is taken -/
theorem take_perm {t l L : List Nat} {i y : Nat} (p : (t ++ l).Perm L) (h : l[i]? = some y) : ((t ++ [y]) ++ l.eraseIdx i).Perm L := by
  rw [List.append_assoc]
  exact ((erase_perm h).append_left t).trans p
/-- an order of the stands, the neutral one first -/
structure Ordr (n : Nat) (o : List Nat) : Prop where
  p : o.Perm (List.range n)
  z : o[0]? = some 0
theorem Ordr.of {n : Nat} {t : List Nat} (hn : 0 < n) (h : t.Perm (List.range' 1 (n - 1))) : Ordr n (0 :: t) := by
  refine ⟨?_, rfl⟩
  have e : List.range n = 0 :: List.range' 1 (n - 1) := by
    obtain ⟨m, rfl⟩ : ∃ m, n = m + 1 := ⟨n - 1, by omega⟩
    rw [List.range_eq_range', List.range'_succ]
    rfl
  rw [e]
  exact h.cons 0
section
variable {n : Nat} {o : List Nat}
theorem Ordr.len (h : Ordr n o) : o.length = n := by rw [h.p.length_eq, List.length_range]
theorem Ordr.nd (h : Ordr n o) : o.Nodup := h.p.nodup_iff.mpr List.nodup_range
theorem Ordr.mem (h : Ordr n o) {u : Nat} : u ∈ o ↔ u < n := by rw [h.p.mem_iff, List.mem_range]
def oA (o : List Nat) (i : Nat) : Nat := o.getD i 0
def pA (o : List Nat) (u : Nat) : Nat := o.idxOf u
theorem oA_at {i : Nat} (hi : i < o.length) : o[i]? = some (oA o i) := by
  unfold oA
  rw [List.getD_eq_getElem?_getD, List.getElem?_eq_getElem hi]
  rfl
theorem Ordr.pl (h : Ordr n o) {u : Nat} (hu : u < n) : pA o u < o.length := List.idxOf_lt_length_of_mem (h.mem.mpr hu)
theorem Ordr.renum (h : Ordr n o) : Renum n (oA o) (pA o) := by
  have hl := h.len
  refine ⟨fun i hi => ?_, fun u hu => ?_, fun u hu => ?_, fun i hi => ?_, ?_⟩
  · exact h.mem.mp (List.mem_of_getElem? (oA_at (by omega)))
  · have := h.pl hu
    omega
  · have e := oA_at (h.pl hu)
    rw [List.getElem?_eq_getElem (h.pl hu)] at e
    have e2 : o[pA o u]'(h.pl hu) = u := List.getElem_idxOf (h.pl hu)
    rw [e2] at e
    exact (Option.some.inj e).symm
  · have hi2 : i < o.length := by omega
    have e := oA_at hi2
    rw [List.getElem?_eq_getElem hi2] at e
    have e2 : o[i] = oA o i := Option.some.inj e
    unfold pA
    rw [← e2]
    exact h.nd.idxOf_getElem i hi2
  · unfold oA
    rw [List.getD_eq_getElem?_getD, h.z]
    rfl
/-- the place is the first one where it stands -/
theorem Ordr.first (h : Ordr n o) {u m z : Nat} (hu : u < n) (hm : m < pA o u) (hz : o[m]? = some z) : z ≠ u := fun e => by
  have R := h.renum
  have hml : m < n := by have := h.pl hu; have := h.len; omega
  have e1 := oA_at (o := o) (i := m) (by rw [h.len]; exact hml)
  rw [hz] at e1
  have e2 : z = oA o m := Option.some.inj e1
  have := R.po m hml
  rw [← e2, e] at this
  omega
end
end UC
set_option Elab.async false
set_option linter.all false
set_option maxRecDepth 100000
set_option maxHeartbeats 4000000
/-! A rule that the layer lacks: enumerate(t) of a tuple. -/
namespace UC
open PySem PySem.Spec PyProof.Rows L2
set_option maxHeartbeats 1000000 in
theorem enumT_new (t : Addr) (its : Array Value) : Meets (Builtin.«enumerate.__new__» ⟨[.type "enumerate", .ref t], []⟩) (fun _ R s => s.heap.IsTuple t its ∧
      R (.ok (.ret (.ref (s.heap.push { cls := .type "tuple_iterator", data := .fields #[.ref t, .int 0 0] }).objs.size)))
        { s with heap := (s.heap.push { cls := .type "tuple_iterator", data := .fields #[.ref t, .int 0 0] }).push { cls := .type "enumerate", data := .fields #[.none, .bool false, .ref s.heap.objs.size, rawInt 0, .none, .none] } }) :=
  .of_wp fun P w A R s h => by
    obtain ⟨hp, g, d, tk, os⟩ := s
    obtain ⟨h1, h⟩ := h
    have hs := sub_enumerate
    have q1 : ∀ {A' : Around} {E Q : Value → Shared → Prop}, Q (.ref hp.objs.size) ⟨hp.push { cls := .type "tuple_iterator", data := .fields #[.ref t, .int 0 0] }, g, d, tk, os⟩ →
        wpAny (model P w) A' (pyIter (.ref t)) Q E ⟨hp, g, d, tk, os⟩ := fun q => wpAny_pyIter_tuple h1 q
    wp_walk using q1
    refine wpAny_stack_any fun st => wpAny_pure ?_
    split
    · rename_i c _ _ _ _ _
      cases (c == Value.type "enumerate")
      all_goals (wp_walk using q1; exact ⟨_, rfl, h⟩)
    · wp_walk using q1
      exact ⟨_, rfl, h⟩
theorem call_enumT {P : Program} {w : World} {A : Around} {E : Value → Shared → Prop} {s : Shared} {t : Addr} {its : Array Value} {Q : Value → Shared → Prop} (hT : s.heap.IsTuple t its)
    (k : ∀ h2, IsEnum h2 (s.heap.objs.size + 1) s.heap.objs.size 0 .none → h2.IsTupleIter s.heap.objs.size t 0 → h2.objs.size = s.heap.objs.size + 2 → (∀ b o, s.heap.get? b = some o → h2.get? b = some o) →
      Q (.ref (s.heap.objs.size + 1)) { s with heap := h2 }) : wpAny (model P w) A (call (.type "enumerate") [.ref t]) Q E s := by
  refine callType_new F.called_enumerate (by decide) (F.typeCall_enumerate_1 _) (F.newCall_enumerate_1 _) (fun ob => F.args_object_init_2 ob _) F.entry_enumerate_new (enumT_new t its) ⟨hT, ?_⟩
  have z : (s.heap.push { cls := .type "tuple_iterator", data := .fields #[.ref t, .int 0 0] }).objs.size = s.heap.objs.size + 1 := Heap.size_push ..
  show _ ∧ _
  rw [z]
  have e1 : IsEnum ((s.heap.push { cls := .type "tuple_iterator", data := .fields #[.ref t, .int 0 0] }).push { cls := .type "enumerate", data := .fields #[.none, .bool false, .ref s.heap.objs.size, rawInt 0, .none, .none] }) (s.heap.objs.size + 1) s.heap.objs.size 0 .none := by
    have y := Heap.get?_push_size (s.heap.push { cls := .type "tuple_iterator", data := .fields #[.ref t, .int 0 0] }) (o := { cls := .type "enumerate", data := .fields #[.none, .bool false, .ref s.heap.objs.size, rawInt 0, .none, .none] }) rfl
    rw [z] at y
    exact y
  exact ⟨⟨_, e1, rfl⟩, k _ e1 ⟨_, Heap.get?_push_of_some _ (Heap.get?_push_size _ rfl), rfl, rfl⟩ (by rw [Heap.size_push, z]) fun b o x => Heap.get?_push_of_some _ (Heap.get?_push_of_some _ x)⟩
theorem enumT_end {P : Program} {w : World} {A : Around} {E : Value → Shared → Prop} {s : Shared} {e it t : Addr} {i : Nat} {its : Array Value} {old : Value} {Q : Option Value → Shared → Prop} (hh : A.handled = none)
    (he : IsEnum s.heap e it ((i : Nat) : Int) old) (hi : s.heap.IsTupleIter it t i) (ht : s.heap.IsTuple t its) (hx : its[i]? = none) (k : ∀ h2, Heap.ExtBut it s.heap h2 → Q none { s with heap := h2 }) : wpAny (model P w) A (pyNext (.ref e)) Q E s := by
  have ty : s.TypeIs (.ref e) "enumerate" := ⟨_, he, rfl⟩
  unfold pyNext
  refine wpAny_bind (wpAny_attempt (wpAny_callSpecial?_slot (name := Str.ofString "__next__") ty F.slot_enumerate_next (wpAny_call_entry F.slot_enumerate_next ty F.entry_enumerate_next ?_ (F.args_enumerate_next_1 _))))
  show wpAny _ _ (field (.ref e) 2 >>= _) _ _ _
  refine wpAny_bind (wpAny_field he rfl (x := .ref it) rfl (wpAny_bind (wpAny_nextOf_tuple_end hh hi ht hx fun h2 x y1 y2 => ?_)))
  obtain ⟨o, ho, hc⟩ := y2
  exact wpAny_bind (wpAny_isInstance (T := "StopIteration") (b := true) ⟨o, ho, hc⟩ isSubtype_stop (wpAny_pure (k _ y1)))
/-- the tuple at a, each item in a new pair -/
def IteT (K : PySem.W.Frag) (a : Addr) : It :=
  ⟨fun i H => ∃ (xs : List V) (x : V), SqT K H a xs ∧ xs[i]? = some x,
   fun i H v H2 => ∃ T x, v = .ref T ∧ H T = none ∧ H2 = upd H T (.tup [.int (i : Nat), x]) ∧ ∀ xs, SqT K H a xs → xs[i]? = some x,
   fun i H => ∃ xs : List V, SqT K H a xs ∧ xs.length ≤ i⟩
theorem turn_enumT {P : Program} {w : World} {K : PySem.W.Frag} {elts : List Expr} {kk : Nat} {tpos : Pos} (a e it : Addr) :
    Turn P w K (.Tuple elts kk tpos) (IteT K a) [e, it] e (fun i h => (∃ old, IsEnum h e it ((i : Nat) : Int) old) ∧ h.IsTupleIter it a i ∧ e ≠ it) where
  mem := List.mem_cons_self
  obj := fun i h st b hb => by
    obtain ⟨⟨old, he⟩, ⟨o, ho, hc, hd⟩, _⟩ := st
    rcases (show b = e ∨ b = it by simpa using hb) with z | z
    · subst z
      exact ⟨_, he, fun v q => nomatch q⟩
    · subst z
      exact ⟨o, ho, fun v q => by rw [hd] at q; cases q⟩
  keep := fun i h h2 st k => let ⟨⟨old, he⟩, hi, hne⟩ := st; ⟨⟨old, k e List.mem_cons_self _ he⟩, hi.at fun o q => k it (by simp) o q, hne⟩
  item := by
    intro X hP hw hK hc i pins s σ H E I hf st hg
    subst hP hw hK
    obtain ⟨⟨old, he⟩, hit, hne⟩ := st
    obtain ⟨xs, x, hq, hx⟩ := hg
    obtain ⟨its, rv, p, hz⟩ := I.tuple hq
    obtain ⟨u, hu, ru⟩ := rv.get hx
    have hl := rv.length
    have le : e < s.heap.objs.size := Heap.lt_size he
    have li : it < s.heap.objs.size := by obtain ⟨_, q, _⟩ := hit; exact Heap.lt_size q
    obtain ⟨op, hop, hcp, np, hdp⟩ := p
    have hT : s.heap.IsTuple a its.toArray := ⟨op, hop, hcp, np, hdp⟩
    have nai : a ≠ it := fun z => by
      obtain ⟨o, ho, hc2, _⟩ := hit
      rw [z, ho] at hop
      cases hop
      rw [hc2] at hcp
      exact absurd (Value.type.inj hcp) (by decide)
    have nea : e ∉ [it, a] := fun z => by
      rcases (show e = it ∨ e = a by simpa using z) with q | q
      · exact hne q
      · rw [q] at he
        rw [he] at hop
        cases hop
        exact absurd (Value.type.inj hcp) (by decide)
    have li2 : i < its.toArray.size := by
      have := (List.getElem?_eq_some_iff.mp hu).1
      simpa using this
    refine wpAny_pyNext_enum_itemD (Draws.tuple (A := X.A.in1) (I.ok.hd hc) it a nai its.toArray) he ⟨hit, hT⟩ li2 hne nea fun y h2 tk hy ho st2 hN hsz hk => ?_
    have ey : y = u := by
      have q : its[i]? = some y := by simpa using hy
      rw [hu] at q
      exact (Option.some.inj q).symm
    subst ey
    refine ⟨_, rfl, wpAny_letOwnedTupleGo_enum (s := { s with heap := h2, toks := tk + 1 }) ho fun h3 he3 sb => ?_⟩
    have hN3 : h3.get? s.heap.objs.size = some { cls := .type "tuple", data := .seq #[.int i tk, y] } := (sb.2 _ (Nat.ne_of_gt le)).trans hN
    have new : ObjOk X.prog X.w (upd H s.heap.objs.size (.tup [.int (i : Nat), x])) h3 s.heap.objs.size (.tup [.int (i : Nat), x]) :=
      ⟨by show 2 ≤ sizeLine; decide, [.int i tk, y], .cons ⟨_, rfl⟩ (.cons ru .nil), ⟨_, hN3, rfl, _, rfl⟩⟩
    have I1 : Inv X pins σ (upd H s.heap.objs.size (.tup [.int (i : Nat), x])) { s with heap := h3, toks := tk + 1 } := I.turnedNew (ch := [e, it]) (fun b ob hb q => (sb.2 b (fun z => hb (by simp [z]))).trans (hk b ob (fun z => hb (by simp [z])) (fun z => hb (by simp [z])) q)) hf (Nat.le_refl _) new
    refine ⟨.ref s.heap.objs.size, _, I1, rfl, ⟨_, x, rfl, I.hok.fresh (Nat.le_refl _), rfl, fun ys hy2 => by rw [I.tuple_inj hy2 hq]; exact hx⟩, ⟨⟨y, ?_⟩, st2.1.at fun o q => (sb.2 it (Ne.symm hne)).trans q, hne⟩, fun b hb => ?_⟩
    · have e2 : ((i + 1 : Nat) : Int) = (i : Int) + 1 := by omega
      rw [e2]
      exact he3
    · have lb : b < s.heap.objs.size := by
        rcases (show b = e ∨ b = it by simpa using hb) with z | z
        · rw [z]; exact le
        · rw [z]; exact li
      rw [upd_ne (Nat.ne_of_lt lb)]
      exact (hf b hb).1
  done := by
    intro X hP hw hK hc i pins s σ H E I hf st hg
    subst hP hw hK
    obtain ⟨⟨old, he⟩, hit, hne⟩ := st
    obtain ⟨xs, hq, hx⟩ := hg
    obtain ⟨its, rv, p, hz⟩ := I.tuple hq
    obtain ⟨f0, f1, f2, f3, f4, f5⟩ := hf it (by simp)
    have hl := rv.length
    obtain ⟨op, hop, hcp, np, hdp⟩ := p
    have hT : s.heap.IsTuple a its.toArray := ⟨op, hop, hcp, np, hdp⟩
    exact enumT_end (I.ok.hd hc) he hit hT (by simp; omega) fun h2 eb => ⟨rfl, I.turned (t' := s.toks) (fun b o hb q => eb b o hb q) f0 f1 f3 f4 f5⟩
  self := fun A i s Q E st h => let ⟨⟨_, he⟩, _⟩ := st; wpAny_pyIter_enum he h
def iEnumT (K : PySem.W.Frag) (ta : TA) : TI := fun σ H R => ta σ H fun vs H1 => ∃ a xs, vs = [.ref a] ∧ SqT K H1 a xs ∧ R (IteT K a) H1
theorem pi_enumT {X : Cx} {e : Expr} {ta : TA} {p pos tpos : Pos} {elts : List Expr} {kk : Nat} (hg : Gl X "enumerate") (hm : X.mg "enumerate" = none) (ha : PA X [e] ta) (hs : starEach [e] X.env = [(false, eval e X.env)] := by rfl) :
    PI X (.Tuple elts kk tpos) (.Call (.Name "enumerate" p) [e] [] pos) (iEnumT X.K ta) := by
  refine ⟨fun pins s σ H R I h => ?_⟩
  refine Call_ (ld_blt I hg hm boot_enumerate (PyProof.Rows.callWith_type1 (thn (ha.run pos pins s σ H _ I h) fun us s1 ⟨vs, H1, I1, r1, q1⟩ => ?_) hs rfl))
  obtain ⟨a, xs, rfl, hq, q⟩ := q1
  obtain ⟨u, rfl, ru⟩ := vals1 r1
  cases ru
  obtain ⟨its, rv, ⟨op, hop, hcp, np, hdp⟩, hz⟩ := I1.tuple hq
  refine call_enumT (its := its.toArray) ⟨op, hop, hcp, np, hdp⟩ fun h2 he hit hsz hk => wpAny_pyIter_enum he ?_
  refine ⟨s1.heap.objs.size + 1, [s1.heap.objs.size + 1, s1.heap.objs.size], _, _, H1, rfl, I1.kept (t' := s1.toks) hk, turn_enumT a (s1.heap.objs.size + 1) s1.heap.objs.size, ⟨⟨.none, he⟩, hit, Nat.succ_ne_self _⟩, fun b hb => ?_, q⟩
  have hle : s1.heap.objs.size ≤ b := by
    rcases (show b = s1.heap.objs.size + 1 ∨ b = s1.heap.objs.size by simpa using hb) with z | z
    · rw [z]; exact Nat.le_add_right _ _
    · rw [z]; exact Nat.le_refl _
  exact I1.fpOk hle (I1.hok.fresh hle)
theorem walk_enumT {K : PySem.W.Frag} {a : Addr} {xs : List V} : Walk (IteT K a) xs.length (fun H => SqT K H a xs) (YPair (fun i => some (.int (i : Nat))) (fun i => xs[i]?)) :=
  ⟨fun i _ hi q => ⟨xs, xs[i], q, by simp [hi]⟩, fun _ q => ⟨xs, q, Nat.le_refl _⟩, fun i H v H2 _ q y => let ⟨T, x, h1, h2, h3, h4⟩ := y; ⟨T, .int (i : Nat), x, h1, h2, h3, rfl, h4 xs q⟩⟩
/-! a list or a tuple that the code made, whichever stands there -/
abbrev TkLT (H : Hp) (a : Addr) (xs : List V) : Prop := H a = some (.lst xs) ∨ H a = some (.tup xs)
def iLT (tl : TE) : TI := fun σ H R => tl σ H fun x H1 => ∃ a xs, x = .ref a ∧ TkLT H1 a xs ∧ ∀ (J : It) (G : Hp → Prop), (∀ H2, (∀ o, H1 a = some o → H2 a = some o) → G H2) → Walk J xs.length G (YAt xs) → R J H1
theorem pi_lt {X : Cx} {tg l : Expr} {tl : TE} (hl : PE X l tl) : PI X tg l (iLT tl) := by
  refine ⟨fun pins s σ H R I h => ?_⟩
  refine thn (hl.run pins s σ H _ I h) fun v s1 ⟨x, H1, I1, r1, a, xs, e, hq, q⟩ => ?_
  subst e
  cases r1
  have fp : ∀ b ∈ [s1.heap.objs.size], FpOk X pins H1 b := fun b hb => by
    cases (show b = s1.heap.objs.size by simpa using hb)
    exact I1.fpOk (Nat.le_refl _) (I1.hok.fresh (Nat.le_refl _))
  rcases hq with hq | hq
  · obtain ⟨its, rv, p, hz⟩ := I1.list (SqL.of hq)
    refine wpAny_pyIter_list p.isList ?_
    exact ⟨s1.heap.objs.size, [s1.heap.objs.size], _, _, H1, rfl, I1.kept (t' := s1.toks) fun b o e => Heap.get?_push_of_some _ e, turn_list a _, ⟨_, Heap.get?_push_size _ rfl, rfl, rfl⟩, fp, q _ (fun H2 => SqL X.K H2 a xs) (fun H2 e => SqL.of (e _ hq)) walk_list⟩
  · obtain ⟨its, rv, p, hz⟩ := I1.tuple (SqT.of hq)
    refine wpAny_pyIter_tuple (show s1.heap.IsTuple a its.toArray from p) ?_
    exact ⟨s1.heap.objs.size, [s1.heap.objs.size], _, _, H1, rfl, I1.kept (t' := s1.toks) fun b o e => Heap.get?_push_of_some _ e, turn_tuple a _, ⟨_, Heap.get?_push_size _ rfl, rfl, rfl⟩, fp, q _ (fun H2 => SqT X.K H2 a xs) (fun H2 e => SqT.of (e _ hq)) walk_tup⟩
def rIxLT : R2 := fun x y H Q => ∃ p xs i v, x = .ref p ∧ y = .int i ∧ TkLT H p xs ∧ atI xs i = some v ∧ Q v H
theorem ix_lt {X : Cx} : IxR X rIxLT := fun va sl pins s σ H x y v u Q I r1 r2 h hs => by
  obtain ⟨p, xs, i, z, e1, e2, hq, e3, q⟩ := h
  rcases hq with hq | hq
  · exact ix_list va sl pins s σ H x y v u Q I r1 r2 ⟨p, xs, i, z, e1, e2, SqL.of hq, e3, q⟩ hs
  · exact ix_tup va sl pins s σ H x y v u Q I r1 r2 ⟨p, xs, i, z, e1, e2, SqT.of hq, e3, q⟩ hs
theorem TkLT.same {H H' : Hp} {a : Addr} {xs : List V} (e : Same H H') (h : TkLT H a xs) : TkLT H' a xs := h.elim (fun h => .inl (e _ _ h)) fun h => .inr (e _ _ h)
theorem TkLT.there {H : Hp} {a : Addr} {xs : List V} (h : TkLT H a xs) : ∃ o, H a = some o := h.elim (fun h => ⟨_, h⟩) fun h => ⟨_, h⟩
end UC
set_option Elab.async false
set_option linter.all false
set_option maxRecDepth 100000
set_option maxHeartbeats 8000000
/-! Rules that the layer lacks: set(xs) of ints, a list or a tuple, of any number; sorted of such a set and of a dict of ints, of any number. -/
namespace UC
open PySem PySem.Spec PyProof.Rows L2
/-- an empty set as the model lays it -/
abbrev st0 (w : World) : Obj := { cls := .type "set", dict := none, data := .set #[] 0 (.fresh 0 0 (!w.params.followText "set-order")) }
section
variable {P : Program} {w : World} {A : Around} {E : Value → Shared → Prop} {s : Shared}
/-- set(xs) of a list, whatever its loop does -/
theorem set_of_gen {l : Addr} {its : Array Value} (D : Heap → Nat → Prop) {Q : Value → Shared → Prop} (hl : s.heap.IsList l its)
    (up : ∀ (s1 : Shared) (I : Addr) (R : Result → Shared → Prop), s1 = { s with heap := (s.heap.push (st0 w)).push { cls := .type "list_iterator", data := .fields #[.ref l, .int 0 0] } } → I = (s.heap.push (st0 w)).objs.size →
      (∀ (h2 : Heap) (t c : Nat), D h2 c → (∀ b o, s.heap.get? b = some o → h2.get? b = some o) → R (.ok (.ret .none)) { s with heap := h2, toks := t }) →
      codeAny (model P w) A.in1.in1 (.builtin "set.update.loop" ⟨[.ref s.heap.objs.size, .ref I], []⟩) R s1)
    (k : ∀ (h2 : Heap) (t c : Nat), D h2 c → (∀ b o, s.heap.get? b = some o → h2.get? b = some o) → Q (.ref s.heap.objs.size) { s with heap := h2, toks := t }) :
    wpAny (model P w) A (call (.type "set") [.ref l]) Q E s := by
  have made0 := F.called_set.made
  have sub0 := F.called_set.sub
  refine wpAny_call (codeAny_of_tree ?_)
  show wpAny _ _ (callAny (.type "set") _) _ _ _
  refine wpAny_pure ⟨Code.quiet_builtin _ (by decide +kernel), codeAny_builtin F.entry_type_call ?_⟩
  rw [Around.under_plain (weight_type_call_type "set" [.ref l] []) rfl]
  have nt := F.called_set.notType
  have cc := F.called_set.canCreate
  have tc := F.typeCall_set_1 (.ref l)
  repeat (any_goals (first | assumption | wp_step))
  clear cc nt
  refine codeAny_mono (code_set_led1 (.ref l) (E := E) (Q₁ := fun ob s1 => ob = .ref s.heap.objs.size ∧ s1 = { s with heap := s.heap.push (st0 w) }) ⟨rfl, rfl⟩) fun r s1 hr => ?_
  rcases r with e | fl
  · exact hr
  · cases fl with
    | ret ob =>
      obtain ⟨rfl, rfl⟩ := hr
      have g0 : (s.heap.push (st0 w)).get? s.heap.objs.size = some (st0 w) := Heap.get?_push_size _ rfl
      have ty0 : Shared.TypeIs { s with heap := s.heap.push (st0 w) } (.ref s.heap.objs.size) "set" := ⟨_, g0, rfl⟩
      have look0 := F.called_set.init.lookup
      have bind0 := F.called_set.init.bind (.ref s.heap.objs.size)
      repeat (any_goals (first | assumption | wp_step))
      refine codeAny_mono (codeAny_call_builtin (R := wants (fun r s2 => r = .none ∧ ∃ h2 t c, s2 = { s with heap := h2, toks := t } ∧ D h2 c ∧ (∀ b o, s.heap.get? b = some o → h2.get? b = some o)) E)
        F.called_set.init.plain F.entry_set_init (check_set_init_1 ty0 ?_)) fun r2 s2 hr2 => ?_
      · obtain ⟨⟨oc, od, odt, osl⟩, hol, hcl, nl, hdl⟩ := hl
        simp only at hcl hdl
        subst hcl hdl
        have hol2 : (s.heap.push (st0 w)).get? l = some { cls := .type "list", dict := od, data := .seq its nl, slots := osl } := Heap.get?_push_of_some _ hol
        have s_1 := F.sub_list_set
        have s_2 := F.sub_list_frozenset
        have ne0 : (Value.type "list" == Value.type "dict") = false := by decide
        have hl1 : (s.heap.push (st0 w)).IsList l its := ⟨_, hol2, rfl, nl, rfl⟩
        unfold Builtin.«set.__init__» noKeywords Builtin.Frozenset.updateFrom
        generalize hPI : pyIter = PI
        wp_walk
        subst hPI
        refine wpAny_pyIter_list hl1 (wpAny_bind (wpAny_runValue ?_))
        refine up _ _ _ rfl rfl fun h2 t2 c2 hD hk => ?_
        show wpAny _ _ _ _ _ _
        refine wpAny_pure ?_
        show wpAny _ _ (ret Value.none) _ _ _
        exact wpAny_pure ⟨rfl, h2, t2, c2, rfl, hD, hk⟩
      · rcases r2 with e | fl2
        · exact hr2
        · cases fl2 with
          | ret r =>
            obtain ⟨rfl, h2, t2, c2, rfl, hD2, hk2⟩ := hr2
            repeat (any_goals (first | assumption | wp_step))
            exact k _ _ _ hD2 hk2
          | _ => exact hr2.elim
    | _ => exact hr.elim
theorem set_of_list {l : Addr} {its : Array Value} (ns : List Int) {Q : Value → Shared → Prop} (hh : A.handled = none) (hl : s.heap.IsList l its) (hi : IntsAre its.toList ns) (lt : ns.length + 1 < scanBound)
    (k : ∀ (h2 : Heap) (t c : Nat), SetR w h2 s.heap.objs.size (fun j => decide (j ∈ ns)) c → c ≤ ns.length → (∀ b o, s.heap.get? b = some o → h2.get? b = some o) → Q (.ref s.heap.objs.size) { s with heap := h2, toks := t }) :
    wpAny (model P w) A (call (.type "set") [.ref l]) Q E s := by
  have sz : its.size = ns.length := (Array.length_toList).symm.trans (IntsAre.length hi)
  refine set_of_gen (fun h2 c => SetR w h2 s.heap.objs.size (fun j => decide (j ∈ ns)) c ∧ c ≤ ns.length) hl (fun s1 I R e1 e2 kk => ?_) fun h2 t c d e => k h2 t c d.1 d.2 e
  subst e1 e2
  obtain ⟨oc, hol, hcl, nl, hdl⟩ := id hl
  have hl1 : (s.heap.push (st0 w)).IsList l its := ⟨_, Heap.get?_push_of_some _ hol, hcl, nl, hdl⟩
  have lS : l < s.heap.objs.size := Heap.lt_size hol
  have h3 : A.in1.in1.in1.handled = none := by simp [hh]
  have z1 : (s.heap.push (st0 w)).objs.size = s.heap.objs.size + 1 := Heap.size_push ..
  have nI : l ≠ (s.heap.push (st0 w)).objs.size := by
    rw [z1]
    exact Nat.ne_of_lt (Nat.lt_succ_of_lt lS)
  have nS : s.heap.objs.size ∉ [(s.heap.push (st0 w)).objs.size, l] := fun m => by
    rcases (show s.heap.objs.size = (s.heap.push (st0 w)).objs.size ∨ s.heap.objs.size = l by simpa using m) with q | q
    · rw [z1] at q
      exact absurd q (Nat.ne_of_lt (Nat.lt_succ_self _))
    · exact absurd q (Nat.ne_of_gt lS)
  have vals : ∀ (i : Nat) (v : Value), its[i]? = some v → ∃ k t, ns[i]? = some k ∧ v = .int k t := fun i v hv => by
    have lt : i < ns.length := by rw [← sz]; exact (Array.getElem?_eq_some_iff.mp hv).1
    obtain ⟨t, e⟩ := PyProof.Rows.IntsAre.int_at hi i v (by rw [Array.getElem?_toList]; exact hv)
    refine ⟨ns[i], t, List.getElem?_eq_getElem lt, ?_⟩
    rw [e, List.getD_eq_getElem?_getD, List.getElem?_eq_getElem lt]
    first | rfl | done
  refine set_update_ints ((Walks.list h3 _ l nI its).toS) s.heap.objs.size nS ns sz lt vals (its.size - 0) 0 _ (by omega) (Nat.zero_le _) ⟨⟨_, Heap.get?_push_size _ rfl, rfl, rfl⟩, (hl1.push _)⟩ ?a0 ?aR
  case a0 => exact ⟨0, Nat.le_refl 0, setR_new_at (Heap.get?_push_of_some _ (Heap.get?_push_size _ rfl))⟩
  case aR =>
    rintro ⟨h2, g2, d2, t2, o2⟩ c2 hm hc2 hS2
    have eg : g2 = s.gens := hm.gens
    have ed : d2 = s.drawn := hm.drawn
    have eo : o2 = s.os := hm.os
    subst eg ed eo
    rw [sz] at hc2
    refine kk h2 t2 c2 ⟨hS2, hc2⟩ fun b o e => ?_
    have lb : b < s.heap.objs.size := Heap.lt_size e
    refine hm.heap b o (fun m => ?_) (Heap.get?_push_of_some _ (Heap.get?_push_of_some _ e))
    rcases (show b = s.heap.objs.size ∨ b = (s.heap.push (st0 w)).objs.size by simpa using m) with q | q
    · exact absurd q (Nat.ne_of_lt lb)
    · rw [z1] at q
      exact absurd q (Nat.ne_of_lt (Nat.lt_succ_of_lt lb))
/-- list.sort of a list that was just laid, of ints -/
theorem sort_new {a : Addr} {vs : List Value} {ns : List Int} {Q : Value → Shared → Prop} (ho : s.heap.get? a = some (seqObj "list" vs.toArray 0)) (hi : IntsAre vs ns) (z : vs.length ≤ sizeLine)
    (k : ∀ (out : List Value) (ys : List Int) (c : Nat) (h2 : Heap), IntsAre out ys → ys.Perm ns → ys.Pairwise (· ≤ ·) → h2.get? a = some (seqObj "list" out.toArray c) → (∀ b u, b ≠ a → s.heap.get? b = some u → h2.get? b = some u) → Q .none { s with heap := h2 }) :
    wpAny (model P w) A (call (.builtin "list.sort") [.ref a]) Q E s := by
  refine wpAny_call_entry PyProof.Rows.slot_list_sort ⟨_, ho, rfl⟩ PyProof.Rows.entry_list_sort (SrtO.list_sort_ord SrtO.swo_int ho z (fun h2 => SrtO.ints_sortable hi h2) fun out h1 h2 => ⟨.none, rfl, ?_⟩) (PyProof.Rows.args_list_sort _)
  obtain ⟨k1, k2, k3⟩ := SrtO.ints_out hi h1 h2
  obtain ⟨c, hc⟩ := PyProof.Rows.sortedHeap_at (vs := vs) (out := out.toArray) ho
  exact k out _ c _ k1 k2 k3 hc fun b u hb hu => by
    rw [PyProof.Rows.sortedHeap_old hb (Heap.lt_size hu)]
    exact hu
end
section
variable {X : Cx}
/-- set(xs) of a list, of a tuple of ints -/
def rSetL (K : PySem.W.Frag) (w : World) : List V → Hp → VK → Prop := fun xs H Q => ∃ (a : Addr) (ns : List Int), xs = [.ref a] ∧ (SqL K H a (ns.map V.int) ∨ SqT K H a (ns.map V.int)) ∧ ns.length ≤ 1000 ∧
  ∀ (p : Addr) (c : Nat), H p = none → c ≤ ns.length → Q (.ref p) (upd H p (SetO w p (fun j => decide (j ∈ ns)) c))
theorem cr_setLT (hc : X.calm = true) : CallR X (.type "set") (rSetL X.K X.w) := by
  intro pins s σ H xs us Q I r h
  obtain ⟨a, ns, rfl, hq, l, q⟩ := h
  rw [Vals.ref1 r]
  have fin : ∀ (h2 : Heap) (t c : Nat), SetR X.w h2 s.heap.objs.size (fun j => decide (j ∈ ns)) c → c ≤ ns.length → (∀ b o, s.heap.get? b = some o → h2.get? b = some o) → EP X pins σ Q (.ref s.heap.objs.size) { s with heap := h2, toks := t } :=
    fun h2 t c R le k => ⟨.ref _, upd H s.heap.objs.size (SetO X.w s.heap.objs.size (fun j => decide (j ∈ ns)) c), I.laid (t' := t) k (Nat.le_refl _) (setO_new R), rfl, q _ c (I.hok.fresh (Nat.le_refl _)) le⟩
  have lt : ns.length + 1 < scanBound := Nat.lt_of_le_of_lt (Nat.succ_le_succ l) (by decide)
  rcases hq with hq | hq
  · obtain ⟨its, rv, hl, hz⟩ := I.list hq
    exact set_of_list ns (I.ok.hd hc) hl.isList rv.ints lt fin
  · obtain ⟨its, rv, ⟨o, ho, hcl, n, hd⟩, hz⟩ := I.tuple hq
    exact call_set_tupI ns (I.ok.hd hc) ⟨o, ho, hcl, n, hd⟩ rv.ints lt fin
/-- sorted(S) of a set of ints, of any number -/
def rSortedSetN (w : World) : List V → Hp → VK → Prop := fun vs H Q => ∃ (a : Addr) (S : Int → Bool) (n : Nat), vs = [V.ref a] ∧ H a = some (SetO w a S n) ∧ n ≤ 1000 ∧
  ∀ (ns : List Int) (p : Addr), ns.Pairwise (· < ·) → (∀ k : Int, k ∈ ns ↔ S k = true) → H p = none → Q (.ref p) (upd H p (.lst (ns.map V.int)))
theorem cr_sortedSetN (hcalm : X.calm = true) : CallR X (.builtin "sorted") (rSortedSetN X.w) := by
  intro pins s σ H vs us Q I r h
  obtain ⟨a, S, n, rfl, ha, l, q⟩ := h
  have R := setO_get I ha
  rw [Vals.ref1 r]
  obtain ⟨o, es, ep, t, ho, hex, hd, g, nd, hm, hb, hf, hn, hr, hl⟩ := R
  refine Calls.call_function_entry PyProof.Rows.kind_sorted PyProof.Rows.plain_sorted PyProof.Rows.entry_sorted (PyProof.Rows.args_sorted1 _) ?_
  unfold Builtin.«sorted»
  refine wpAny_bind (m := checkCount "sorted" 1 1 _) (wpAny_pure ?_)
  refine wpAny_bind (collect_set (A := X.A.in1) (I.ok.hd hcalm) ⟨o, ho, hex.1, hd⟩ hf hb hr hl fun s1 vs k1 hz g1 o1 pm => ?_)
  have lv : vs.length = n := by rw [pm.length_eq, List.length_map, Array.length_toList]; exact hn
  have iv : IntsAre vs (vs.map Builtin.Re.reRawOf) := ints_of vs fun v hv => by
    obtain ⟨e, he, z⟩ := List.mem_map.mp (pm.mem_iff.mp hv)
    obtain ⟨k, tk, h1, _⟩ := g e he
    exact ⟨k, tk, by rw [← z]; exact h1⟩
  have pk : (vs.map Builtin.Re.reRawOf).Perm (es.toList.map keyOf) := by
    have z := pm.map Builtin.Re.reRawOf
    rw [List.map_map] at z
    exact z
  have zl : vs.length ≤ sizeLine := by rw [lv]; exact Nat.le_trans l (by decide)
  refine wpAny_bind (wpAny_newList ?_ zl)
  have hoL : (s1.heap.push (seqObj "list" vs.toArray 0)).get? s1.heap.objs.size = some (seqObj "list" vs.toArray 0) := Heap.get?_push_size _ rfl
  refine wpAny_bind (wpAny_holding (sort_new hoL iv zl fun out ys c h2 a1 a2 a3 a4 a5 => ?_))
  have pn : ys.Perm (es.toList.map keyOf) := a2.trans pk
  have up := lt_of_le_nodup ys a3 (pn.nodup_iff.mpr nd)
  have mem : ∀ k, k ∈ ys ↔ S k = true := fun k => by rw [pn.mem_iff, ← hm k]
  have hn2 : H s1.heap.objs.size = none := I.hok.fresh hz
  have kept : ∀ b u, s.heap.get? b = some u → h2.get? b = some u := fun b u e => by
    have z := k1 b u e
    exact a5 b u (Nat.ne_of_lt (Heap.lt_size z)) (Heap.get?_push_of_some _ z)
  have len : (ys.map V.int).length ≤ sizeLine := by
    rw [List.length_map, pn.length_eq, List.length_map, Array.length_toList, hn]
    exact Nat.le_trans l (by decide)
  have J : Inv X pins σ (upd H s1.heap.objs.size (.lst (ys.map V.int))) { s with heap := h2, gens := s1.gens, drawn := s1.drawn, toks := s1.toks } :=
    I.call (ch := []) (Un.laid kept hz hn2) (I.hok.laid kept hz ⟨len, out, c, vals_of_ints a1, a4⟩) (by rw [g1]; exact I.bare) (fun _ z => nomatch z)
  refine wpAny_pure ⟨_, rfl, .ref s1.heap.objs.size, upd H s1.heap.objs.size (.lst (ys.map V.int)), ?_, rfl, q ys _ up mem hn2⟩
  have e : ({ s1 with heap := h2 } : Shared) = { s with heap := h2, gens := s1.gens, drawn := s1.drawn, toks := s1.toks } := by
    cases s1
    cases s
    cases o1
    rfl
  show Inv X pins σ _ { s1 with heap := h2 }
  rw [e]
  exact J
/-- sorted(d) of a dict of ints, of any number -/
def rSortedDN : List V → Hp → VK → Prop := fun xs H Q => ∃ (a : Addr) (kvs : List (Key × V)) (ks : List Int), xs = [.ref a] ∧ Rd H a (.dK kvs) ∧ kvs.map (·.1) = ks.map Sum.inl ∧ ks.length ≤ 1000 ∧
  ∀ (ys : List Int) (p : Addr), ys.Perm ks → ys.Pairwise (· ≤ ·) → H p = none → Q (.ref p) (upd H p (.lst (ys.map V.int)))
theorem cr_sortedDN (hcalm : X.calm = true) : CallR X (.builtin "sorted") rSortedDN := by
  intro pins s σ H xs us Q I r q
  obtain ⟨a, kvs, ks, rfl, hd, hks, l, q⟩ := q
  rw [Vals.ref1 r]
  obtain ⟨z, lo, vs, rel, dd⟩ := dk_rd I.hok hd
  obtain ⟨ep, hat⟩ := dd.dictAt
  have hkeys : vs.map (·.1) = ks.map Sum.inl := rel.keys.symm.trans hks
  have hl : vs.length = ks.length := by
    have e := congrArg List.length hkeys
    rw [List.length_map, List.length_map] at e
    exact e
  have h16 : vs.length ≤ sizeLine := by rw [hl]; exact Nat.le_trans l (by decide)
  refine Calls.call_function_entry PyProof.Rows.kind_sorted PyProof.Rows.plain_sorted PyProof.Rows.entry_sorted (PyProof.Rows.args_sorted1 _) ?_
  unfold Builtin.«sorted»
  refine wpAny_bind (m := checkCount "sorted" 1 1 _) (wpAny_pure ?_)
  refine wpAny_bind (PySem.W.kdu_collect (A := X.A.in1) (PySem.W.kdl_dict (knd := mixKind X.prog X.w) (kvs := vs) (ep := ep) lo) (I.ok.hd hcalm) hat h16 fun h2 tk acc hk hacc => ?_)
  have hal : acc.toList.length = ks.length := by rw [Array.length_toList, hacc.1, hl]
  have iv : IntsAre acc.toList ks := ints_each hal fun j v e => by
    obtain ⟨k, x, e1, e2⟩ := hacc.2 j v (by rw [← Array.getElem?_toList]; exact e)
    have e3 : (vs.map (·.1))[j]? = some k := by rw [List.getElem?_map, e1]; rfl
    rw [hkeys, List.getElem?_map] at e3
    cases e4 : ks[j]? with
    | none => rw [e4] at e3; cases e3
    | some y =>
      rw [e4] at e3
      cases Option.some.inj e3
      rcases keyIs_shape (show keyIs (Sum.inl y) v = true from e2) with ⟨i, t, ek, ev⟩ | ⟨z, t, ek, ev⟩
      · cases ek
        exact ⟨y, t, rfl, ev⟩
      · cases ek
  have zl : acc.toList.length ≤ sizeLine := by rw [hal, ← hl]; exact h16
  have I1 : Inv X pins σ H { s with heap := h2, toks := tk } := I.kept hk
  refine wpAny_bind (wpAny_newList ?_ zl)
  show wpAny _ _ _ _ _ { s with heap := h2.push (seqObj "list" acc.toList.toArray 0), toks := tk }
  have hoL : (h2.push (seqObj "list" acc.toList.toArray 0)).get? h2.objs.size = some (seqObj "list" acc.toList.toArray 0) := Heap.get?_push_size _ rfl
  refine wpAny_bind (wpAny_holding (sort_new (s := { s with heap := h2.push (seqObj "list" acc.toList.toArray 0), toks := tk }) hoL iv zl fun out ys c h3 a1 a2 a3 a4 a5 => ?_))
  have len : (ys.map V.int).length ≤ sizeLine := by
    rw [List.length_map, a2.length_eq, ← hl]
    exact h16
  exact wpAny_pure ⟨_, rfl, .ref h2.objs.size, upd H h2.objs.size (.lst (ys.map V.int)), I1.laid (t' := tk) (fun b u e => a5 b u (Nat.ne_of_lt (Heap.lt_size e)) (Heap.get?_push_of_some _ e)) (Nat.le_refl _) ⟨len, out, c, vals_of_ints a1, a4⟩, rfl, q ys _ a2 a3 (I1.hok.fresh (Nat.le_refl _))⟩
end
/-! back to numbers -/
theorem nat_list {ns : List Int} (h : ∀ k ∈ ns, 0 ≤ k) : ∃ xs : List Nat, ns = xs.map fun (x : Nat) => (x : Int) := by
  refine ⟨ns.map Int.toNat, ?_⟩
  rw [List.map_map]
  refine (List.map_id ns).symm.trans (List.map_congr_left fun k hk => ?_)
  show k = ((k.toNat : Nat) : Int)
  have := h k hk
  omega
theorem mapV (xs : List Nat) : (xs.map fun (x : Nat) => (x : Int)).map V.int = xs.map nV := List.map_map
theorem asc_of_lt {xs : List Nat} (h : (xs.map fun (x : Nat) => (x : Int)).Pairwise (· < ·)) : xs.Pairwise (· < ·) := (List.pairwise_map.mp h).imp fun {a b} q => by omega
theorem mem_cast {xs : List Nat} {x : Nat} : ((x : Int) ∈ xs.map fun (x : Nat) => (x : Int)) ↔ x ∈ xs := by
  rw [List.mem_map]
  exact ⟨fun ⟨y, hy, e⟩ => by have : y = x := by omega
                              exact this ▸ hy, fun h => ⟨x, h, rfl⟩⟩
/-- sorted, each once: of numbers -/
theorem asc_ints {xs : List Nat} {ns : List Int} (up : ns.Pairwise (· < ·)) (mem : ∀ k : Int, k ∈ ns ↔ decide (k ∈ xs.map fun (x : Nat) => (x : Int)) = true) : ∃ ys : List Nat, ns = (ys.map fun (x : Nat) => (x : Int)) ∧ ys.Pairwise (· < ·) ∧ ∀ x, x ∈ ys ↔ x ∈ xs := by
  obtain ⟨ys, rfl⟩ := nat_list (ns := ns) fun k hk => by
    have := of_decide_eq_true ((mem k).mp hk)
    obtain ⟨y, _, rfl⟩ := List.mem_map.mp this
    exact Int.natCast_nonneg y
  refine ⟨ys, rfl, asc_of_lt up, fun x => ?_⟩
  rw [← mem_cast, mem (x : Int), decide_eq_true_eq, mem_cast]
end UC
set_option Elab.async false
set_option linter.all false
set_option maxRecDepth 100000
set_option maxHeartbeats 8000000
/-! Rules that the layer lacks: xs.extend(t) of a tuple; len(set(xs)) of unlike texts. -/
namespace UC
open PySem PySem.Spec PyProof.Rows L2
section
variable {X : Cx}
/-- xs.extend(t), t a tuple that the code made -/
def rExtT : V → List V → Hp → VK → Prop := fun x vs H Q => ∃ l b xs zs, x = .ref l ∧ vs = [.ref b] ∧ H l = some (.lst xs) ∧ H b = some (.tup zs) ∧ xs.length + zs.length ≤ sizeLine ∧ Q .non (upd H l (.lst (xs ++ zs)))
end
theorem strsLen : ∀ {us : List Value} {xs : List Str}, StrsAre us xs → us.length = xs.length
  | _, _, .nil => rfl
  | _, _, .cons x t r => congrArg (· + 1) (strsLen r)
theorem strsAt : ∀ {us : List Value} {xs : List Str}, StrsAre us xs → ∀ (i : Nat) (v : Value), us[i]? = some v → ∃ t, ∀ x, xs[i]? = some x → v = .str x t
  | _, _, .nil, i, v, h => by simp at h
  | _, _, .cons x t r, 0, v, h => by
    simp at h
    subst h
    exact ⟨t, fun y e => by simp at e; rw [e]⟩
  | _, _, .cons x t r, i + 1, v, h => by
    obtain ⟨t2, e⟩ := strsAt r i v (by simpa using h)
    exact ⟨t2, fun y q => e y (by simpa using q)⟩
theorem setS_new {P : Program} {w : World} {h : Heap} {a : Addr} {ns : List Str} (ho : h.get? a = some (st0 w)) : h.SetOf (PySem.strKind P w) a (fun j => decide (j ∈ ns.take 0)) 0 :=
  ⟨_, #[], 0, _, ho, ⟨rfl, rfl, rfl⟩, rfl, (fun e he => by simp at he), (fun k => by simp), (by decide), (by rfl), rfl⟩
section
variable {P : Program} {w : World} {A : Around} {E : Value → Shared → Prop} {s : Shared}
theorem set_update_strs {I : Addr} {fp wr : List Addr} {G : Array GenState → Array GenState → Prop} {n : Nat} {Pv : Nat → Value → Prop} {St : Nat → Shared → Prop} {R : Result → Shared → Prop} (W : WalksS P w A.in1 I fp wr G n Pv St) (S : Addr) (hSf : S ∉ fp)
    (ns : List Str) (nd : ns.Nodup) (hn : n = ns.length) (hb : ns.length + 1 < scanBound) (hval : ∀ i v, Pv i v → ∃ k t, ns[i]? = some k ∧ v = .str k t) :
    ∀ (k i : Nat) (s : Shared), n - i = k → i ≤ n → St i s → s.heap.SetOf (PySem.strKind P w) S (fun j => decide (j ∈ ns.take i)) i →
      (∀ s2 c, Moved (S :: wr) G s s2 → c = n → s2.heap.SetOf (PySem.strKind P w) S (fun j => decide (j ∈ ns)) c → R (.ok (.ret .none)) s2) →
      codeAny (model P w) A (.builtin "set.update.loop" ⟨[.ref S, .ref I], []⟩) R s := by
  have nSw : S ∉ wr := fun h => hSf (W.sub _ h)
  have sub1 : ∀ b ∈ wr, b ∈ S :: wr := fun b hb => List.mem_cons_of_mem _ hb
  have move : ∀ {s1 s2 : Shared} {f : Str → Bool} {c : Nat}, Moved wr G s1 s2 → s1.heap.SetOf (PySem.strKind P w) S f c → s2.heap.SetOf (PySem.strKind P w) S f c := fun hm hS => by
    obtain ⟨o, es, ep, tb, ho, rest⟩ := hS
    exact ⟨o, es, ep, tb, hm.heap S _ nSw ho, rest⟩
  intro k
  induction k with
  | zero =>
    intro i s hk hi hst hS hR
    have e0 : i = n := by omega
    subst e0
    refine codeAny_builtin F.entry_set_update_loop ?_
    rw [Around.under_plainId F.plain_set_update_loop _]
    show wpAny _ A.in1 (pyNext (.ref I) >>= _) _ _ s
    refine wpAny_bind (W.done s _ _ hst fun s2 hm => ?_)
    show wpAny _ A.in1 (ret Value.none) _ _ s2
    have e : ns.take i = ns := List.take_of_length_le (by omega)
    rw [e] at hS
    exact wpAny_pure (hR s2 i (hm.mono sub1) rfl (move hm hS))
  | succ k ih =>
    intro i s hk hi hst hS hR
    have hlt : i < n := by omega
    refine codeAny_builtin F.entry_set_update_loop ?_
    rw [Around.under_plainId F.plain_set_update_loop _]
    show wpAny _ A.in1 (pyNext (.ref I) >>= _) _ _ s
    refine wpAny_bind (W.item i s _ _ hlt hst fun v s2 hP hst2 hm => ?_)
    obtain ⟨z, t, hz, rfl⟩ := hval i v hP
    have hS2 := move hm hS
    show wpAny _ A.in1 (holding [Value.str z t] (setAdd S (.str z t)) >>= _) _ _ s2
    refine wpAny_bind (wpAny_holding ?_)
    unfold setAdd
    refine wpAny_holding (wpAny_bind ((PySem.strKind P w).pyHash (k := z) (strKind_is _ _ _ _) ?_))
    refine wpAny_setAddHashed_of (knd := PySem.strKind P w) (s := { s2 with toks := s2.toks + 1 }) (strKind_is _ _ _ _) rfl hS2 (by omega) fun h3 hsb hS3 => ?_
    have nz : z ∉ ns.take i := fun m => by
      obtain ⟨j, hj⟩ := List.mem_iff_getElem?.mp m
      rw [List.getElem?_take] at hj
      split at hj
      · rename_i lj
        have := (List.getElem?_inj (List.getElem?_eq_some_iff.mp hz).1 nd).mp (hz.trans hj.symm)
        omega
      · cases hj
    have hS4 : h3.SetOf (PySem.strKind P w) S (fun j => decide (j ∈ ns.take (i + 1))) (i + 1) := by
      refine SetOf_congr hS3 (fun j => ?_) ?_
      · rw [List.take_add_one, hz]
        simp [List.mem_append]
      · simp only [decide_eq_false nz, Bool.false_eq_true, if_false]
    refine wpAny_pure ⟨plainId_quiet F.plain_set_update_loop _, ih (i + 1) _ (by omega) hlt (W.frame _ s2 _ _ hst2 (Nat.le_succ _) fun b hb o e => ?_) hS4 fun s4 c2 hm4 hc4 hS5 => ?_⟩
    · rw [hsb.2 b (fun h : b = S => hSf (by rw [← h]; exact hb))]
      exact e
    · refine hR s4 c2 (Moved.trans W.gtrans ((hm.mono sub1).then_heap (Nat.le_succ _) fun b o hb e => ?_) hm4) hc4 hS5
      rw [hsb.2 b (fun h : b = S => hb (by rw [h]; exact List.mem_cons_self))]
      exact e
theorem set_of_texts {l : Addr} {its : Array Value} (ns : List Str) {Q : Value → Shared → Prop} (hh : A.handled = none) (hl : s.heap.IsList l its) (hi : StrsAre its.toList ns) (nd : ns.Nodup) (lt : ns.length + 1 < scanBound)
    (k : ∀ (h2 : Heap) (t c : Nat), h2.SetOf (PySem.strKind P w) s.heap.objs.size (fun j => decide (j ∈ ns)) c → c = ns.length → (∀ b o, s.heap.get? b = some o → h2.get? b = some o) → Q (.ref s.heap.objs.size) { s with heap := h2, toks := t }) :
    wpAny (model P w) A (call (.type "set") [.ref l]) Q E s := by
  have sz : its.size = ns.length := (Array.length_toList).symm.trans (strsLen hi)
  refine set_of_gen (fun h2 c => h2.SetOf (PySem.strKind P w) s.heap.objs.size (fun j => decide (j ∈ ns)) c ∧ c = ns.length) hl (fun s1 I R e1 e2 kk => ?_) fun h2 t c d e => k h2 t c d.1 d.2 e
  subst e1 e2
  obtain ⟨oc, hol, hcl, nl, hdl⟩ := id hl
  have hl1 : (s.heap.push (st0 w)).IsList l its := ⟨_, Heap.get?_push_of_some _ hol, hcl, nl, hdl⟩
  have lS : l < s.heap.objs.size := Heap.lt_size hol
  have h3 : A.in1.in1.in1.handled = none := by simp [hh]
  have z1 : (s.heap.push (st0 w)).objs.size = s.heap.objs.size + 1 := Heap.size_push ..
  have nI : l ≠ (s.heap.push (st0 w)).objs.size := by
    rw [z1]
    exact Nat.ne_of_lt (Nat.lt_succ_of_lt lS)
  have nS : s.heap.objs.size ∉ [(s.heap.push (st0 w)).objs.size, l] := fun m => by
    rcases (show s.heap.objs.size = (s.heap.push (st0 w)).objs.size ∨ s.heap.objs.size = l by simpa using m) with q | q
    · rw [z1] at q
      exact absurd q (Nat.ne_of_lt (Nat.lt_succ_self _))
    · exact absurd q (Nat.ne_of_gt lS)
  have vals : ∀ (i : Nat) (v : Value), its[i]? = some v → ∃ k t, ns[i]? = some k ∧ v = .str k t := fun i v hv => by
    have lt : i < ns.length := by rw [← sz]; exact (Array.getElem?_eq_some_iff.mp hv).1
    obtain ⟨t, e⟩ := strsAt hi i v (by rw [Array.getElem?_toList]; exact hv)
    exact ⟨ns[i], t, List.getElem?_eq_getElem lt, e ns[i] (List.getElem?_eq_getElem lt)⟩
  refine set_update_strs ((Walks.list h3 _ l nI its).toS) s.heap.objs.size nS ns nd sz lt vals (its.size - 0) 0 _ (by omega) (Nat.zero_le _) ⟨⟨_, Heap.get?_push_size _ rfl, rfl, rfl⟩, (hl1.push _)⟩ ?a0 ?aR
  case a0 => exact setS_new (Heap.get?_push_of_some _ (Heap.get?_push_size _ rfl))
  case aR =>
    rintro ⟨h2, g2, d2, t2, o2⟩ c2 hm hc2 hS2
    have eg : g2 = s.gens := hm.gens
    have ed : d2 = s.drawn := hm.drawn
    have eo : o2 = s.os := hm.os
    subst eg ed eo
    rw [sz] at hc2
    refine kk h2 t2 c2 ⟨hS2, hc2⟩ fun b o e => ?_
    have lb : b < s.heap.objs.size := Heap.lt_size e
    refine hm.heap b o (fun m => ?_) (Heap.get?_push_of_some _ (Heap.get?_push_of_some _ e))
    rcases (show b = s.heap.objs.size ∨ b = (s.heap.push (st0 w)).objs.size by simpa using m) with q | q
    · exact absurd q (Nat.ne_of_lt lb)
    · rw [z1] at q
      exact absurd q (Nat.ne_of_lt (Nat.lt_succ_of_lt lb))
end

theorem extT_meets (l : Addr) (xs : Array Value) (n : Nat) (b : Addr) (ys : Array Value) (m : Nat) (od : Option Addr) (osl : Array (Option Value)) (c1 : ¬ (!xs.isEmpty && Builtin.List.listTooLong (xs.size + ys.size)) = true) (c2 : xs.size ≤ sizeLine) (c3 : xs.size + ys.size ≤ sizeLine + 1) :
    Meets (Builtin.«list.extend» ⟨[.ref l, .ref b], []⟩) (fun _ R s => s.heap.get? l = some { cls := .type "list", dict := none, data := .seq xs n, slots := #[] } ∧ s.heap.get? b = some { cls := .type "tuple", dict := od, data := .seq ys m, slots := osl } ∧
      R (.ok (.ret Value.none)) { s with heap := s.heap.update l (Obj.mapSeq fun x => x ++ ys), toks := s.toks }) :=
  .of_wp fun P w A R s h => by
    obtain ⟨hp, g, d, tk, os⟩ := s
    obtain ⟨hl, hb, h⟩ := h
    have f1 := AutoSeq1.idx_int
    have f2 := AutoSeq1.sub_tuple_tuple
    have f3 := AutoSeq1.sub_list_list
    have f4 := AutoSeq1.sub_tuple_list
    have f5 := AutoSeq1.sub_list_tuple
    have z2 : (xs ++ ys).size ≤ sizeLine + 1 := by rw [Array.size_append]; exact c3
    wp_walk using (wpAny_updateSeq hl rfl (hz := c2) (_hz' := z2)), AutoSeq1.wpAny_loadPart' hl, AutoSeq1.wpAny_loadPart' hb
    exact ⟨_, rfl, h⟩
section
variable {X : Cx}
theorem mt_extendT : MtM X "list.extend" rExtT := by
  intro pins s σ H x vs v us Q I rx rv h
  obtain ⟨l, b, xs, zs, rfl, rfl, hH, hB, hz, q⟩ := h
  cases rx
  obtain ⟨u, rfl, ru⟩ := rv.one
  cases ru
  obtain ⟨z, its, n, r, hl, e⟩ := I.lstM hH
  obtain ⟨z2, its2, r2, ⟨oc, od, odt, osl⟩, ho, hc, n2, hd⟩ := I.hok b _ hB
  simp only at hc hd
  subst hc hd
  have hl2 := r2.length
  have hsz : its.toArray.size + its2.toArray.size ≤ sizeLine := by rw [List.size_toArray, List.size_toArray]; omega
  refine call_meets F.slot_list_extend ⟨_, e, rfl⟩ F.entry_list_extend (F.args_list_extend_2 _ _) (extT_meets l its.toArray n b its2.toArray n2 od osl (by rw [notLongL hsz, Bool.and_false]; exact Bool.false_ne_true) (by rw [List.size_toArray]; omega) (by omega)) ⟨e, ho, ?_⟩
  refine ⟨.non, _, I.lset (its' := its ++ its2) hH e (by simp) (r.append r2) ?_, rfl, q⟩
  rw [List.length_append]
  omega
/-- the set of texts at a -/
def SetS (P : Program) (w : World) (a : Addr) (S : Str → Bool) (n : Nat) : HO := .ext fun h => h.SetOf (PySem.strKind P w) a S n
def rSetTx (K : PySem.W.Frag) (P : Program) (w : World) : List V → Hp → VK → Prop := fun xs H Q => ∃ (a : Addr) (ns : List Str), xs = [.ref a] ∧ SqL K H a (ns.map V.str) ∧ ns.Nodup ∧ ns.length ≤ 1000 ∧
  ∀ p : Addr, H p = none → Q (.ref p) (upd H p (SetS P w p (fun j => decide (j ∈ ns)) ns.length))
theorem cr_setTx (hc : X.calm = true) : CallR X (.type "set") (rSetTx X.K X.prog X.w) := by
  intro pins s σ H xs us Q I r h
  obtain ⟨a, ns, rfl, hq, nd, l, q⟩ := h
  rw [Vals.ref1 r]
  obtain ⟨its, rv, hl, hz⟩ := I.list hq
  refine set_of_texts (P := X.prog) (w := X.w) ns (I.ok.hd hc) hl.isList rv.strs nd (Nat.lt_of_le_of_lt (Nat.succ_le_succ l) (by decide)) fun h2 t c R le k => ?_
  subst le
  refine ⟨.ref _, upd H s.heap.objs.size (SetS X.prog X.w s.heap.objs.size (fun j => decide (j ∈ ns)) ns.length), I.laid (t' := t) k (Nat.le_refl _) ?_, rfl, q _ (I.hok.fresh (Nat.le_refl _))⟩
  have ⟨o, es, ep, tb, ho, rest⟩ := R
  exact ⟨R, ⟨o, ho⟩, fun h1 h2 p k => let ⟨o, es, ep, tb, ho, rest⟩ := p; ⟨o, es, ep, tb, k o ho, rest⟩⟩
def rLenTx (P : Program) (w : World) : List V → Hp → VK → Prop := fun xs H Q => ∃ (a : Addr) (S : Str → Bool) (n : Nat), xs = [.ref a] ∧ H a = some (SetS P w a S n) ∧ n ≤ 1000 ∧ Q (.int (n : Int)) H
theorem cr_lenTx : CallR X (.builtin "len") (rLenTx X.prog X.w) := by
  intro pins s σ H xs us Q I r h
  obtain ⟨a, S, n, rfl, ha, l, q⟩ := h
  rw [Vals.ref1 r]
  obtain ⟨o, es, ep, t, ho, hex, hd, _, _, _, hf, hn⟩ := (I.hok a _ ha).1
  exact call_len_set ho hex hd hf (by rw [hn]; omega) ⟨.int n, H, I.tok _, ⟨_, by rw [hn]⟩, q⟩
end
end UC
set_option Elab.async false
set_option linter.all false
set_option maxRecDepth 100000
set_option maxHeartbeats 8000000
/-! A rule that the layer lacks: x != y of two instances of one own class with an own __eq__, with either answer. -/
namespace UC
open PySem PySem.Spec PyProof.Rows L2
section
variable {P : Program} {w : World} {A : Around} {E : Value → Shared → Prop} {s : Shared} {K : PySem.W.Frag} {x y C f : Addr} {ox oy : Obj} {od od2 : Option Obj}
theorem objNe_own {Q : Fin → Shared → Prop} (X : K.In s.heap) (I : PySem.W.InstAt s.heap x ox C od) (hu : A.units < cLine) (he : PySem.W.findIn K (.ref C) "__eq__" = some (some (.ref f))) (hf : PySem.W.isFn K (.ref f) = true)
    (h : wpAny (model P w) A (call (.ref f) [.ref x, .ref y]) (fun v s2 => ∃ b, v = .bool b ∧ Q (.done (.ret (.bool (!b)))) s2) E s) : wpAny (model P w) A (Builtin.«object.__ne__» ⟨[.ref x, .ref y], []⟩) Q E s := by
  unfold Builtin.«object.__ne__»
  repeat (first
    | with_reducible refine wpAny_cRoomFor hu ?_
    | (refine wpAny_bind (m := callSpecialIfBound? (.ref x) (Str.ofString "__eq__") [.ref y]) (PySem.W.ifBound_K X I he hf (wpAny_mono h (fun r s2 hr => by
          obtain ⟨b, rfl, hq⟩ := hr
          repeat (first | exact hq | exact wpAny_pure hq | exact wpAny_truthy_bool hq | (refine wpAny_bind (m := truthy (.bool _)) (wpAny_truthy_bool ?_)) | wp_step)) fun _ _ e => e)))
    | wp_step)
theorem ifBound_ne {M : Model} {args : List Value} {Q : Option Value → Shared → Prop} (X : K.In s.heap) (I : PySem.W.InstAt s.heap x ox C od) (hs : PySem.W.findIn K (.ref C) "__ne__" = some (some (.builtin "object.__ne__")))
    (h : wpAny M A (call (.builtin "object.__ne__") (.ref x :: args)) (fun v => Q (some v)) E s) : wpAny M A (callSpecialIfBound? (.ref x) "__ne__" args) Q E s := by
  simp only [callSpecialIfBound?, bindSpecialIfBound?]
  refine wpAny_holding (wpAny_bind (wpAny_bind (wpAny_bind (I.type.here ((PySem.W.looks_findIn X hs).here ?_)))))
  refine wpAny_bind (wpAny_askSetting (wpAny_ite ?_))
  have fin : wpAny M A (call (.builtin "object.__ne__") ([.ref x] ++ args) >>= fun v => pure (some v)) Q E s := wpAny_bind (wpAny_mono h (fun v s2 q => wpAny_pure q) fun _ _ q => q)
  split
  · exact wpAny_bind (wpAny_of_eq (PySem.F.cmp_object.ne.bind _) (wpAny_pure (by exact fin)))
  · exact wpAny_tryCatch (wpAny_bind (wpAny_of_eq (PySem.F.cmp_object.ne.bind _) (wpAny_pure (by exact fin))))
theorem ne_own {Q : Value → Shared → Prop} (X : K.In s.heap) (I : PySem.W.InstAt s.heap x ox C od) (I2 : PySem.W.InstAt s.heap y oy C od2) (hu : A.units + 1 < cLine) (he : PySem.W.findIn K (.ref C) "__eq__" = some (some (.ref f))) (hf : PySem.W.isFn K (.ref f) = true)
    (hs : PySem.W.findIn K (.ref C) "__ne__" = some (some (.builtin "object.__ne__"))) (hm : PySem.W.mroIn K C (.type "object") = some true)
    (h : wpAny (model P w) A.in1 (call (.ref f) [.ref x, .ref y]) (fun v s2 => ∃ b, v = .bool b ∧ Q (.bool (!b)) s2) E s) : wpAny (model P w) A (richCompare .NotEq (.ref x) (.ref y)) Q E s := by
  have one : wpAny (model P w) A (tryCompare (.ref x) "__ne__" (.ref y)) (fun r s2 => ∃ b, r = some (.bool b) ∧ Q (.bool b) s2) E s := by
    unfold tryCompare
    refine wpAny_bind (ifBound_ne X I hs (wpAny_call (codeAny_call_builtin PySem.F.cmp_object.ne.plain PySem.F.cmpEntry_ne (PySem.W.check_slot PySem.F.cmpKind_ne PySem.F.cmpSplit_ne (I.type.andThen (PySem.W.looks_mroIn X hm)) (PySem.F.cmpArgs_ne _ _)
      (objNe_own (A := A.in1) X I (by rw [Around.in1_units]; exact hu) he hf (wpAny_mono h (fun v s2 hv => ?_) fun _ _ e => e))))))
    obtain ⟨b, rfl, hq⟩ := hv
    exact ⟨_, rfl, wpAny_pure ⟨_, rfl, hq⟩⟩
  simp only [richCompare, cmpInfo_NotEq, oneThing_ref]
  refine wpAny_holding (wpAny_bind (wpAny_cRoomFor (Nat.lt_of_succ_lt hu) ?_))
  refine wpAny_bind (I.type.here (wpAny_bind (I2.type.here ?_)))
  split
  · rename_i q
    simp at q
  · refine wpAny_bind (wpAny_pure ?_)
    simp only [Bool.false_eq_true, if_false]
    refine wpAny_bind (m := tryCompare (.ref x) _ (.ref y)) (wpAny_mono one (fun r s2 z => ?_) fun _ _ e => e)
    obtain ⟨b, rfl, hq⟩ := z
    exact wpAny_pure hq
end
section
variable {X : Cx}
/-- x != y, both instances of C: what the own == promises, turned -/
def rNeO (C : Addr) (sp : Sp) : R2 := fun x y H Q => ∃ a b dx dy fs gs, x = .ref a ∧ y = .ref b ∧ H a = some (.ins C dx fs) ∧ H b = some (.ins C dy gs) ∧ sp [.ref a, .ref b] H (fun v H2 => ∃ c, v = .bl c ∧ Q (.bl (!c)) H2) E0
theorem op_neO {n k : Nat} {C f : Addr} {fd : FuncData} {ps : List Str} {sp : Sp} (F : FnOk X.prog X.w X.K X.mg X.base CX0 n f fd ps sp) (hb : Binds X.K fd ps []) (M : Meth X.K C "__eq__" f) (O : OwnC X.K C)
    (hs : PySem.W.findIn X.K (.ref C) "__ne__" = some (some (.builtin "object.__ne__"))) (hr : Room k X.A) (hn : n < k) : OpR X (compareOp .NotEq) (rNeO C sp) := by
  intro pins s σ H x y v u Q I rx ry h
  obtain ⟨a, b, dx, dy, fs, gs, rfl, rfl, ha, hb2, q⟩ := h
  cases rx
  cases ry
  obtain ⟨mA, J, _⟩ := ins_get I.hok ha
  obtain ⟨mB, J2, _⟩ := ins_get I.hok hb2
  obtain ⟨_, J, _⟩ := J.look
  obtain ⟨_, J2, _⟩ := J2.look
  have r1 : Room (n + 1) X.A := hr.mono hn
  have hu := r1.un
  show wpAny (model X.prog X.w) X.A (richCompare .NotEq (.ref a) (.ref b)) (EP X pins σ Q) X.xe s
  refine ne_own I.kIn J J2 (by omega) M.at_ M.fn hs O.hm ?_
  have e0 : Env0 X.prog X.w X.K X.mg X.base X.A.in1 X.stack s H := by
    have e := I.env0
    exact ⟨e.frames, e.mod, e.bs, e.bsz, e.funs, e.frf, e.hok, e.bare⟩
  have hl := F.len _ _ _ _ q
  have r2 : Vals [V.ref a, V.ref b] [Value.ref a, Value.ref b] := .cons rfl (.cons rfl .nil)
  refine wpAny_call (codeAny_mono (F.run X.A.in1 X.stack s H ⟨[.ref a, .ref b], []⟩ [.ref a, .ref b] [.ref a, .ref b] _ E0 r1.in1 e0 (by
    have := hb s [.ref a, .ref b] I.kIn (by simpa using hl)
    simpa using this) r2 q) fun r s2 hq => ?_)
  rcases r with e | fl
  · exact (show False from hq).elim
  · cases fl with
    | ret z =>
      obtain ⟨v2, H2, I2, rz, c, rfl, qq⟩ := I.after hq
      cases rz
      exact ⟨c, rfl, .bl (!c), H2, I2, rfl, qq⟩
    | next => exact False.elim hq
    | brk => exact False.elim hq
    | cont => exact False.elim hq
end
end UC
set_option Elab.async false
set_option linter.all false
set_option maxRecDepth 100000
set_option maxHeartbeats 8000000
/-! A rule that the layer lacks: dicts whose keys are ints and nested tuples, mixed, of any depth (as long as no two keys of one hash are deep). -/
namespace UC
open PySem PySem.Spec PyProof.Rows L2
open Sem (wp)
/-- an entry: key, the key's value, the value -/
abbrev KnX := NestedKey × Value × Value
def knE (w : World) (x : KnX) : DictEntry := ⟨x.1.hash w, x.2.1, x.2.2⟩
def KnAt (w : World) (h : Heap) (d : Addr) (xs : List KnX) : Prop :=
  ∃ o es ep, h.get? d = some o ∧ o.ExactDict ∧ o.data = .dict es ep ∧ es.toList = xs.map (knE w) ∧ (xs.map (·.1)).Nodup
/-- an int or a tuple -/
def knV : Value → Bool
  | .int _ _ => true
  | .ref _ => true
  | _ => false
/-- no two deep keys of one hash meet -/
def KnSafe (w : World) (xs : List KnX) (k : NestedKey) (v : Value) : Prop := ∀ x ∈ xs, x.1.hash w = k.hash w → (x.1 = k ∧ x.2.1 = v ∧ ∃ a, v = .ref a) ∨ (x.1.depth ≤ 8 ∧ k.depth ≤ 8)
section
variable {P : Program} {w : World} {A : Around} {E : Value → Shared → Prop} {s : Shared} {d : Addr} {o : Obj} {es : Array DictEntry} {ep : Nat} {xs : List KnX} {k : NestedKey} {v : Value}
theorem kn_at (he : es.toList = xs.map (knE w)) (j : Nat) : es[j]? = (xs[j]?).map (knE w) := by
  rw [← Array.getElem?_toList, he, List.getElem?_map]
theorem kn_size (he : es.toList = xs.map (knE w)) : es.size = xs.length := by
  rw [← Array.length_toList, he, List.length_map]
theorem kn_one (hn : (xs.map (·.1)).Nodup) {i j : Nat} {a b : KnX} (hi : xs[i]? = some a) (hj : xs[j]? = some b) (e : a.1 = b.1) : i = j := by
  have h1 : (xs.map (·.1))[i]? = some a.1 := by rw [List.getElem?_map, hi]; rfl
  have h2 : (xs.map (·.1))[j]? = some a.1 := by rw [List.getElem?_map, hj, e]; rfl
  exact (List.getElem?_inj (List.getElem?_eq_some_iff.mp h1).1 hn).mp (h1.trans h2.symm)
/-- the stored keys of one hash -/
abbrev knSt (es : Array DictEntry) (h : Int) : List Value := (placesWithHash es.size (fun i => es[i]?.map (·.hash)) h).filterMap fun i => es[i]?.map (·.key)
theorem kn_stored (he : es.toList = xs.map (knE w)) {h : Int} {u : Value} (hu : u ∈ knSt es h) : ∃ x ∈ xs, x.2.1 = u ∧ x.1.hash w = h := by
  obtain ⟨i, hi, e⟩ := List.mem_filterMap.mp hu
  have hi2 : ((es[i]?.map (·.hash)) == some h) = true := (List.mem_filter.mp hi).2
  rw [kn_at he] at e hi2
  cases q : xs[i]? with
  | none => rw [q] at e; cases e
  | some x =>
    rw [q] at e hi2
    exact ⟨x, List.mem_of_getElem? q, by simpa [knE] using e, by simpa [knE] using hi2⟩
theorem kn_quiet (hk : NestedIs s.heap k v) (dk : k.depth ≤ 8) (l : List Value) (hl : ∀ u ∈ l, ∃ x ∈ xs, x.2.1 = u ∧ x.1.depth ≤ 8) (his : ∀ x ∈ xs, NestedIs s.heap x.1 x.2.1) {Q : Bool → Shared → Prop} (q : Q false s) :
    wpAny (model P w) A (tableMayTell v l) Q E s := by
  unfold tableMayTell
  split
  · exact wpAny_pure q
  · refine wpAny_bind (quiet_key k v 8 s hk dk A E _ ?_)
    simp only [Bool.not_true, Bool.false_eq_true, if_false]
    refine wpAny_bind (wpAny_forIn_list _ (fun rest r t => t = s ∧ r = (none, ()) ∧ ∀ u ∈ rest, ∃ x ∈ xs, x.2.1 = u ∧ x.1.depth ≤ 8) _ ?_ ?_ _ _ ⟨rfl, rfl, hl⟩)
    · rintro u rest r t ⟨rfl, rfl, hr⟩
      obtain ⟨x, hx, rfl, dx⟩ := hr u List.mem_cons_self
      refine wpAny_bind (quiet_key x.1 _ 8 t (his x hx) dx A E _ ?_)
      simp only [Bool.not_true, Bool.false_eq_true, if_false]
      exact wpAny_pure ⟨rfl, rfl, fun y hy => hr y (List.mem_cons_of_mem _ hy)⟩
    · rintro r t ⟨rfl, rfl, _⟩
      exact wpAny_pure q
/-- of one key there is one entry -/
theorem kn_single (he : es.toList = xs.map (knE w)) (hn : (xs.map (·.1)).Nodup) (all : ∀ (i : Nat) (x : KnX), xs[i]? = some x → x.1.hash w = k.hash w → x.1 = k) {u : Value} {l : List Value} (q : knSt es (k.hash w) = u :: l) : l = [] := by
  have places : ∀ i ∈ placesWithHash es.size (fun i => es[i]?.map (·.hash)) (k.hash w), ∃ x, xs[i]? = some x ∧ x.1 = k := fun i hi => by
    have hi2 : ((es[i]?.map (·.hash)) == some (k.hash w)) = true := (List.mem_filter.mp hi).2
    rw [kn_at he] at hi2
    cases z : xs[i]? with
    | none => rw [z] at hi2; simp at hi2
    | some x =>
      rw [z] at hi2
      exact ⟨x, rfl, all i x z (by simpa [knE] using hi2)⟩
  have nd : (placesWithHash es.size (fun i => es[i]?.map (·.hash)) (k.hash w)).Nodup := List.nodup_range.filter _
  have len : (placesWithHash es.size (fun i => es[i]?.map (·.hash)) (k.hash w)).length ≤ 1 := by
    generalize placesWithHash es.size (fun i => es[i]?.map (·.hash)) (k.hash w) = L at places nd
    match L, places, nd with
    | [], _, _ => exact Nat.zero_le _
    | [_], _, _ => exact Nat.le_refl _
    | i :: j :: r, hp, hd =>
      obtain ⟨x, h1, h2⟩ := hp i (by simp)
      obtain ⟨y, h3, h4⟩ := hp j (by simp)
      have e := kn_one hn h1 h3 (h2.trans h4.symm)
      subst e
      simp at hd
  have l2 : (u :: l).length ≤ 1 := by
    rw [← q]
    exact Nat.le_trans (List.length_filterMap_le _ _) len
  cases l with
  | nil => rfl
  | cons a b => simp at l2
/-- what the look so far says -/
def KnHit (xs : List KnX) (k : NestedKey) (i : Nat) (hit : Option Nat) : Prop := (hit = none ∧ ∀ (j : Nat) (x : KnX), j < i → xs[j]? = some x → x.1 ≠ k) ∨ ∃ j x, hit = some j ∧ j < i ∧ xs[j]? = some x ∧ x.1 = k
theorem knHit_skip {i x : Nat} {hit : Option Nat} (he : es.toList = xs.map (knE w)) (hx : i ≤ x) (sk : ∀ j, i ≤ j → j < x → ((es[j]?.map (·.hash)) == some (k.hash w)) = false) (h : KnHit xs k i hit) : KnHit xs k x hit := by
  rcases h with ⟨h0, hno⟩ | ⟨j, y, h1, h2, h3, h4⟩
  · refine .inl ⟨h0, fun j y hj hy e => ?_⟩
    rcases Nat.lt_or_ge j i with l | l
    · exact hno j y l hy e
    · have z := sk j l hj
      rw [kn_at he, hy] at z
      simp [knE, e] at z
  · exact .inr ⟨j, y, h1, by omega, h3, h4⟩
theorem knHit_other {x : Nat} {hit : Option Nat} {y : KnX} (hy : xs[x]? = some y) (ne : y.1 ≠ k) (h : KnHit xs k x hit) : KnHit xs k (x + 1) hit := by
  rcases h with ⟨h0, hno⟩ | ⟨j, z, h1, h2, h3, h4⟩
  · refine .inl ⟨h0, fun j z hj hz => ?_⟩
    rcases Nat.lt_or_ge j x with l | l
    · exact hno j z l hz
    · have e : j = x := by omega
      subst e
      rw [hy] at hz
      cases hz
      exact ne
  · exact .inr ⟨j, z, h1, by omega, h3, h4⟩
/-- one turn's look at an entry of the hash -/
theorem kn_eq {x : KnX} (hk : NestedIs s.heap k v) (hx : NestedIs s.heap x.1 x.2.1) (hu : A.units + k.depth < cLine) {Q : Bool → Shared → Prop} (q : Q (decide (x.1 = k)) s) : wpAny (model P w) A (eqBool x.2.1 v) Q E s :=
  eqAt_key x.1 k A s _ _ hx hk (Nat.lt_of_le_of_lt (Nat.add_le_add_left (Nat.min_le_right _ _) _) hu) _ _ _ _ (by rw [← NestedKey.decide_eq]; exact q)
theorem kn_walk {Q : Option Nat → Shared → Prop} (hk : NestedIs s.heap k v) (hu : A.units + k.depth < cLine) (ho : s.heap.get? d = some o) (hd : o.data = .dict es ep) (he : es.toList = xs.map (knE w)) (his : ∀ x ∈ xs, NestedIs s.heap x.1 x.2.1)
    (q0 : (∀ (j : Nat) (x : KnX), xs[j]? = some x → x.1 ≠ k) → Q none s) (q1 : ∀ (j : Nat) (x : KnX), xs[j]? = some x → x.1 = k → Q (some j) s) :
    wpAny (model P w) A (dictWalkPlain d v (k.hash w) es (placesWithHash es.size (fun i => es[i]?.map (·.hash)) (k.hash w))) Q E s := by
  unfold dictWalkPlain
  refine wpAny_bind (wpAny_forIn_list _ (fun rest b t => t = s ∧ ((∃ i, b = (none, ()) ∧ rest = (List.range' i (es.size - i)).filter (fun i => (es[i]?.map (·.hash)) == some (k.hash w)) ∧ i ≤ es.size ∧ KnHit xs k i none))) _ ?_ ?_ _ _
    ⟨rfl, 0, rfl, by rw [placesWithHash, List.range_eq_range', Nat.sub_zero], Nat.zero_le _, .inl ⟨rfl, fun _ _ z => absurd z (Nat.not_lt_zero _)⟩⟩)
  · rintro x rest b t ⟨rfl, i, rfl, hr, hi, hH⟩
    obtain ⟨hix, hxn, hpx, hskip, hrest⟩ := filter_range'_cons _ _ _ _ _ hr.symm
    have hlt : x < es.size := by omega
    have hrest2 : rest = (List.range' (x + 1) (es.size - (x + 1))).filter (fun i => (es[i]?.map (·.hash)) == some (k.hash w)) := by rw [hrest]; congr 2; omega
    obtain ⟨y, hy⟩ : ∃ y, xs[x]? = some y := ⟨xs[x]'(by rw [← kn_size he]; exact hlt), List.getElem?_eq_getElem _⟩
    have hex : es[x]? = some (knE w y) := by rw [kn_at he x, hy]; rfl
    have hHx := knHit_skip he hix hskip hH
    rw [hex]
    dsimp only
    have hh : ((knE w y).hash == k.hash w) = true := by
      have z : ((es[x]?.map (·.hash)) == some (k.hash w)) = true := hpx
      rw [hex] at z
      simpa using z
    rw [if_pos hh]
    refine wpAny_bind (wpAny_dictEpoch ho hd (wpAny_bind (kn_eq hk (his y (List.mem_of_getElem? hy)) hu (wpAny_bind (wpAny_dictEpoch ho hd ?_)))))
    show wpAny _ _ (if (ep != ep) = true then _ else _) _ E _
    rw [if_neg (by simp)]
    by_cases hkk : y.1 = k
    · rw [decide_eq_true hkk]
      first | rw [if_pos rfl] | skip
      refine wpAny_bind (wpAny_rule ?_)
      first
        | exact wpAny_pure (wpAny_pure (q1 x y hy hkk))
        | exact wpAny_pure ⟨q1 x y hy hkk⟩
        | exact wpAny_pure (q1 x y hy hkk)
    · rw [decide_eq_false hkk]
      first | rw [if_neg (by decide)] | simp only [Bool.false_eq_true, if_false]
      refine wpAny_bind (wpAny_rule ?_)
      exact wpAny_pure ⟨rfl, x + 1, rfl, hrest2, hlt, knHit_other hy hkk hHx⟩
  · rintro b t ⟨rfl, i, rfl, hr, hi, hH⟩
    refine wpAny_pure (q0 fun j x hj e => ?_)
    rcases hH with ⟨_, hno⟩ | ⟨_, _, z, _⟩
    · rcases Nat.lt_or_ge j i with l | l
      · exact hno j x l hj e
      · have hjl : j < es.size := by
          rw [kn_size he]
          exact (List.getElem?_eq_some_iff.mp hj).1
        have z := List.filter_eq_nil_iff.mp hr.symm j (List.mem_range'_1.mpr ⟨l, by omega⟩)
        rw [kn_at he, hj] at z
        simp [knE, e] at z
    · cases z
theorem kn_find {Q : Option Nat → Shared → Prop} (hv : knV v = true) (hk : NestedIs s.heap k v) (hu : A.units + k.depth < cLine) (ho : s.heap.get? d = some o) (hd : o.data = .dict es ep) (he : es.toList = xs.map (knE w)) (his : ∀ x ∈ xs, NestedIs s.heap x.1 x.2.1)
    (hn : (xs.map (·.1)).Nodup) (safe : KnSafe w xs k v) (q0 : (∀ (j : Nat) (x : KnX), xs[j]? = some x → x.1 ≠ k) → Q none s) (q1 : ∀ (j : Nat) (x : KnX), xs[j]? = some x → x.1 = k → Q (some j) s) :
    wpAny (model P w) A (dictFind d v (k.hash w)) Q E s := by
  have any0 : ∀ a, v = .ref a → ¬ (es.any fun e => e.key == Value.ref a && e.hash != k.hash w) = true := by
    rintro a rfl z
    rw [← Array.any_toList, List.any_eq_true] at z
    obtain ⟨e, hin, hc⟩ := z
    rw [he] at hin
    obtain ⟨x, hx, rfl⟩ := List.mem_map.mp hin
    simp only [knE, Bool.and_eq_true, beq_iff_eq, bne_iff_ne, ne_eq] at hc
    obtain ⟨e1, e2⟩ := hc
    have := his x hx
    rw [e1] at this
    exact e2 (by rw [NestedIs.inj _ _ _ this hk])
  have hst : ∀ u ∈ knSt es (k.hash w), ∃ x ∈ xs, x.2.1 = u ∧ x.1.hash w = k.hash w := fun u hu => kn_stored he hu
  have tells : ∀ (R : Bool → Shared → Prop), R false s → wpAny (model P w) A (if (knSt es (k.hash w) == [v]) = true then pure false else tableMayTell v (knSt es (k.hash w))) R E s := by
    intro R r
    by_cases c : (knSt es (k.hash w) == [v]) = true
    · rw [if_pos c]
      exact wpAny_pure r
    · rw [if_neg c]
      by_cases dk : k.depth ≤ 8
      · refine kn_quiet (xs := xs) hk dk _ (fun u hu => ?_) his r
        obtain ⟨x, hx, e1, e2⟩ := hst u hu
        rcases safe x hx e2 with ⟨z, _⟩ | ⟨z, _⟩
        · exact ⟨x, hx, e1, by rw [z]; exact dk⟩
        · exact ⟨x, hx, e1, z⟩
      · have nil : knSt es (k.hash w) = [] := by
          cases q : knSt es (k.hash w) with
          | nil => rfl
          | cons u l =>
            exfalso
            apply c
            rw [q]
            have all : ∀ (i : Nat) (x : KnX), xs[i]? = some x → x.1.hash w = k.hash w → x.1 = k ∧ x.2.1 = v := fun i x hx e => by
              rcases safe x (List.mem_of_getElem? hx) e with ⟨z1, z2, _⟩ | ⟨_, z⟩
              · exact ⟨z1, z2⟩
              · exact absurd z dk
            obtain ⟨x, hx, e1, e2⟩ := hst u (by rw [q]; exact List.mem_cons_self)
            obtain ⟨i, hi⟩ := List.mem_iff_getElem?.mp hx
            obtain ⟨y1, y2⟩ := all i x hi e2
            have ll : l = [] := kn_single he hn (fun i x hx e => (all i x hx e).1) q
            rw [ll]
            have ev : u = v := e1.symm.trans y2
            obtain ⟨a, ra⟩ : ∃ a, v = .ref a := by
              rcases safe x hx e2 with ⟨_, _, z⟩ | ⟨_, z⟩
              · exact z
              · exact absurd z dk
            rw [ev, ra]
            simp
        unfold tableMayTell
        rw [nil]
        exact wpAny_pure r
  have loop : ∀ (st : List Value), wpAny (model P w) A (do
      let mut hit : Option Nat := none
      for i in placesWithHash es.size (fun i => es[i]?.map (·.hash)) (k.hash w) do
        if let some e := es[i]? then
          if e.hash == k.hash w then
            let before ← dictEpoch d (keyPart v)
            let same ← eqBool e.key v
            if (← dictEpoch d (keyPart v)) != before then unsupported "dict.changed-during-lookup"
            if same then
              if hit.isSome then unsupported "dict.find:order-among-keys-of-one-hash"
              rule "dict.find.hit"
              if st.length < 2 then return some i
              hit := some i
            else
              rule "dict.find.same-hash-other-key"
              if false && !(0 ≤ k.hash w && k.hash w < 32) then unsupported "dict.find:asked-again-or-not-hangs-on-the-table"
      return hit) Q E s := by
    intro st
    refine wpAny_bind (wpAny_forIn_list _ (fun rest b t => t = s ∧ ((∃ i hit, b = (none, hit) ∧ rest = (List.range' i (es.size - i)).filter (fun i => (es[i]?.map (·.hash)) == some (k.hash w)) ∧ i ≤ es.size ∧ KnHit xs k i hit))) _ ?_ ?_ _ _
      ⟨rfl, 0, none, rfl, by rw [placesWithHash, List.range_eq_range', Nat.sub_zero], Nat.zero_le _, .inl ⟨rfl, fun _ _ z => absurd z (Nat.not_lt_zero _)⟩⟩)
    · rintro x rest b t ⟨rfl, i, hit, rfl, hr, hi, hH⟩
      obtain ⟨hix, hxn, hpx, hskip, hrest⟩ := filter_range'_cons _ _ _ _ _ hr.symm
      have hlt : x < es.size := by omega
      have hrest2 : rest = (List.range' (x + 1) (es.size - (x + 1))).filter (fun i => (es[i]?.map (·.hash)) == some (k.hash w)) := by rw [hrest]; congr 2; omega
      obtain ⟨y, hy⟩ : ∃ y, xs[x]? = some y := ⟨xs[x]'(by rw [← kn_size he]; exact hlt), List.getElem?_eq_getElem _⟩
      have hex : es[x]? = some (knE w y) := by rw [kn_at he x, hy]; rfl
      have hHx := knHit_skip he hix hskip hH
      rw [hex]
      dsimp only
      have hh : ((knE w y).hash == k.hash w) = true := by
        have z : ((es[x]?.map (·.hash)) == some (k.hash w)) = true := hpx
        rw [hex] at z
        simpa using z
      rw [if_pos hh]
      refine wpAny_bind (wpAny_dictEpoch ho hd (wpAny_bind (kn_eq hk (his y (List.mem_of_getElem? hy)) hu (wpAny_bind (wpAny_dictEpoch ho hd ?_)))))
      show wpAny _ _ (if (ep != ep) = true then _ else _) _ E _
      rw [if_neg (by simp)]
      by_cases hkk : y.1 = k
      · rw [decide_eq_true hkk]
        rcases hHx with ⟨rfl, _⟩ | ⟨j, z, _, hjx, hj, hz⟩
        · first | rw [if_pos rfl] | skip
          simp only [Option.isSome_none, Bool.false_eq_true, if_false]
          first | refine wpAny_bind (wpAny_pure ?_) | skip
          refine wpAny_bind (wpAny_rule ?_)
          split
          · exact wpAny_pure (wpAny_pure (q1 x y hy hkk))
          · exact wpAny_pure ⟨rfl, x + 1, some x, rfl, hrest2, hlt, .inr ⟨x, y, rfl, Nat.lt_succ_self x, hy, hkk⟩⟩
        · exact absurd (kn_one hn hj hy (hz.trans hkk.symm)) (by omega)
      · rw [decide_eq_false hkk]
        simp only [Bool.false_eq_true, if_false]
        refine wpAny_bind (wpAny_rule ?_)
        first | rw [if_neg (by simp)] | skip
        first
          | exact wpAny_pure ⟨rfl, x + 1, hit, rfl, hrest2, hlt, knHit_other hy hkk hHx⟩
          | exact wpAny_bind (wpAny_pure (wpAny_pure ⟨rfl, x + 1, hit, rfl, hrest2, hlt, knHit_other hy hkk hHx⟩))
    · rintro b t ⟨rfl, i, hit, rfl, hr, hi, hH⟩
      rcases hH with ⟨rfl, hno⟩ | ⟨j, x, rfl, _, hj, e⟩
      · refine wpAny_pure (q0 fun j x hj e => ?_)
        rcases Nat.lt_or_ge j i with l | l
        · exact hno j x l hj e
        · have hjl : j < es.size := by
            rw [kn_size he]
            exact (List.getElem?_eq_some_iff.mp hj).1
          have z := List.filter_eq_nil_iff.mp hr.symm j (List.mem_range'_1.mpr ⟨l, by omega⟩)
          rw [kn_at he, hj] at z
          simp [knE, e] at z
      · exact wpAny_pure (q1 j x hj e)
  have tail : wpAny (model P w) A (do
      let tells ← if (knSt es (k.hash w) == [v]) = true then pure false else tableMayTell v (knSt es (k.hash w))
      if tells && (knSt es (k.hash w)).length ≥ 2 then unsupported "dict.find:order-among-keys-of-one-hash"
      let mut hit : Option Nat := none
      for i in placesWithHash es.size (fun i => es[i]?.map (·.hash)) (k.hash w) do
        if let some e := es[i]? then
          if e.hash == k.hash w then
            let before ← dictEpoch d (keyPart v)
            let same ← eqBool e.key v
            if (← dictEpoch d (keyPart v)) != before then unsupported "dict.changed-during-lookup"
            if same then
              if hit.isSome then unsupported "dict.find:order-among-keys-of-one-hash"
              rule "dict.find.hit"
              if (knSt es (k.hash w)).length < 2 then return some i
              hit := some i
            else
              rule "dict.find.same-hash-other-key"
              if tells && !(0 ≤ k.hash w && k.hash w < 32) then unsupported "dict.find:asked-again-or-not-hangs-on-the-table"
      return hit) Q E s := by
    by_cases c : (knSt es (k.hash w) == [v]) = true
    · rw [if_pos c]
      refine wpAny_bind (wpAny_pure ?_)
      exact loop _
    · rw [if_neg c]
      have z := fun R r => tells R r
      simp only [if_neg c] at z
      refine wpAny_bind (z _ ?_)
      exact loop _
  unfold dictFind
  try with_reducible refine wpAny_holding ?_
  refine wpAny_bind (wpAny_dictEntries ho hd ?_)
  cases v with
  | int i t =>
    dsimp only
    by_cases c : ((Value.int i t :: knSt es (k.hash w)).all carriedByValue) = true
    · rw [if_pos c]
      exact kn_walk hk hu ho hd he his q0 q1
    · rw [if_neg c]
      exact tail
  | ref a =>
    dsimp only
    rw [if_neg (show ¬ ((Value.ref a :: knSt es (k.hash w)).all carriedByValue) = true by simp [carriedByValue])]
    rw [if_neg (any0 a rfl)]
    exact tail
  | _ => cases hv
/-- the entry of a key -/
def knLook (xs : List KnX) (k : NestedKey) : Option Value := (xs.find? fun x => decide (x.1 = k)).map (·.2.2)
theorem knLook_none (h : ∀ (j : Nat) (x : KnX), xs[j]? = some x → x.1 ≠ k) : knLook xs k = none := by
  unfold knLook
  rw [List.find?_eq_none.mpr fun x hx e => ?_]
  · rfl
  · obtain ⟨j, hj⟩ := List.mem_iff_getElem?.mp hx
    exact h j x hj (of_decide_eq_true e)
theorem knLook_some (hn : (xs.map (·.1)).Nodup) {j : Nat} {x : KnX} (hj : xs[j]? = some x) (e : x.1 = k) : knLook xs k = some x.2.2 := by
  unfold knLook
  cases q : xs.find? fun x => decide (x.1 = k) with
  | none => exact absurd (decide_eq_true e) (List.find?_eq_none.mp q x (List.mem_of_getElem? hj))
  | some y =>
    have e2 := List.find?_some q
    obtain ⟨i, hi⟩ := List.mem_iff_getElem?.mp (List.mem_of_find?_eq_some q)
    have e3 := kn_one hn hj hi (e.trans (of_decide_eq_true e2).symm)
    subst e3
    rw [hj] at hi
    rw [Option.some.inj hi]
    rfl
theorem kn_get {Q : Option Value → Shared → Prop} (hv : knV v = true) (hk : NestedIs s.heap k v) (hu : A.units + k.depth < cLine) (hD : KnAt w s.heap d xs) (his : ∀ x ∈ xs, NestedIs s.heap x.1 x.2.1) (safe : KnSafe w xs k v)
    (q : Q (knLook xs k) { s with toks := s.toks + k.draws }) : wpAny (model P w) A (dictGet d v) Q E s := by
  obtain ⟨o, es, ep, ho, _, hd, he, hn⟩ := hD
  unfold dictGet
  try with_reducible refine wpAny_holding ?_
  refine wpAny_bind (pyHash_key k v A s _ hk hu (wpAny_bind (kn_find (s := { s with toks := s.toks + k.draws }) hv hk hu ho hd he his hn safe (fun h => ?_) fun j x hj e => ?_)))
  · rw [knLook_none h] at q
    exact wpAny_pure q
  · rw [knLook_some hn hj e] at q
    refine wpAny_bind (wpAny_dictEntries (s := { s with toks := s.toks + k.draws }) ho hd ?_)
    rw [kn_at he j, hj]
    exact wpAny_pure q
theorem KnAt.ty (hD : KnAt w s.heap d xs) : s.TypeIs (.ref d) "dict" := let ⟨o, _, _, ho, hc, _⟩ := hD; ⟨o, ho, hc.1⟩
theorem kn_in {Q : Value → Shared → Prop} (hv : knV v = true) (hk : NestedIs s.heap k v) (hu : A.in1.units + k.depth < cLine) (low : (d == sysModules) = false) (hD : KnAt w s.heap d xs) (his : ∀ x ∈ xs, NestedIs s.heap x.1 x.2.1) (safe : KnSafe w xs k v)
    (q : Q (.bool (knLook xs k).isSome) { s with toks := s.toks + k.draws }) : wpAny (model P w) A (compareOp .In v (.ref d)) Q E s := by
  show wpAny _ _ (do return .bool (← contains (.ref d) v)) Q E s
  refine wpAny_bind (wpAny_contains_slot hD.ty PySem.F.slot_dict_contains ?_)
  refine wpAny_call_entry PySem.F.slot_dict_contains hD.ty PySem.F.entry_dict_contains ?_ (PySem.F.args_dict_contains_2 _ _)
  show wpAny _ _ (dictGet d v >>= _) _ _ s
  refine wpAny_bind (kn_get hv hk hu hD his safe ?_)
  cases hf : knLook xs k with
  | some z =>
    rw [hf] at q
    show wpAny _ _ (ret (.bool true)) _ _ _
    exact wpAny_pure ⟨_, rfl, wpAny_truthy_bool (wpAny_pure q)⟩
  | none =>
    rw [hf] at q
    show wpAny _ _ (Builtin.Dict.pendingKey? d v >>= _) _ _ _
    exact wpAny_bind (wpAny_pendingKey_other low (wpAny_pure ⟨_, rfl, wpAny_truthy_bool (wpAny_pure q)⟩))
theorem kn_notin {Q : Value → Shared → Prop} (hv : knV v = true) (hk : NestedIs s.heap k v) (hu : A.in1.units + k.depth < cLine) (low : (d == sysModules) = false) (hD : KnAt w s.heap d xs) (his : ∀ x ∈ xs, NestedIs s.heap x.1 x.2.1) (safe : KnSafe w xs k v)
    (q : Q (.bool (!(knLook xs k).isSome)) { s with toks := s.toks + k.draws }) : wpAny (model P w) A (compareOp .NotIn v (.ref d)) Q E s := by
  show wpAny _ _ (do return .bool (!(← contains (.ref d) v))) Q E s
  refine wpAny_bind (wpAny_contains_slot hD.ty PySem.F.slot_dict_contains ?_)
  refine wpAny_call_entry PySem.F.slot_dict_contains hD.ty PySem.F.entry_dict_contains ?_ (PySem.F.args_dict_contains_2 _ _)
  show wpAny _ _ (dictGet d v >>= _) _ _ s
  refine wpAny_bind (kn_get hv hk hu hD his safe ?_)
  cases hf : knLook xs k with
  | some z =>
    rw [hf] at q
    show wpAny _ _ (ret (.bool true)) _ _ _
    exact wpAny_pure ⟨_, rfl, wpAny_truthy_bool (wpAny_pure q)⟩
  | none =>
    rw [hf] at q
    show wpAny _ _ (Builtin.Dict.pendingKey? d v >>= _) _ _ _
    exact wpAny_bind (wpAny_pendingKey_other low (wpAny_pure ⟨_, rfl, wpAny_truthy_bool (wpAny_pure q)⟩))
theorem kn_item {z : Value} {Q : Value → Shared → Prop} (hv : knV v = true) (hk : NestedIs s.heap k v) (hu : A.in1.units + k.depth < cLine) (hD : KnAt w s.heap d xs) (his : ∀ x ∈ xs, NestedIs s.heap x.1 x.2.1) (safe : KnSafe w xs k v) (hz : knLook xs k = some z)
    (q : Q z { s with toks := s.toks + k.draws }) : wpAny (model P w) A (getItem (.ref d) v) Q E s := by
  unfold getItem
  try with_reducible refine wpAny_holding ?_
  refine wpAny_bind (wpAny_sequenceKey hD.ty (by decide) (wpAny_bind (wpAny_callSpecial?_slot (name := Str.ofString "__getitem__") hD.ty PySem.F.slot_dict_getitem
    (wpAny_call_entry PySem.F.slot_dict_getitem hD.ty PySem.F.entry_dict_getitem ?_ (PySem.F.args_dict_getitem_2 _ _)))))
  show wpAny _ _ (dictGet d v >>= _) _ _ s
  refine wpAny_bind (kn_get hv hk hu hD his safe ?_)
  rw [hz]
  exact wpAny_pure ⟨z, rfl, wpAny_pure q⟩
theorem kn_put {z : Value} {Q : Unit → Shared → Prop} (hv : knV v = true) (hk : NestedIs s.heap k v) (hu : A.in1.units + k.depth < cLine) (hD : KnAt w s.heap d xs) (his : ∀ x ∈ xs, NestedIs s.heap x.1 x.2.1) (safe : KnSafe w xs k v) (new : ∀ x ∈ xs, x.1 ≠ k) (hsz : xs.length ≤ sizeLine)
    (q : ∀ h2, KnAt w h2 d (xs ++ [(k, v, z)]) → Heap.SameBut d s.heap h2 → Q () { s with heap := h2, toks := s.toks + k.draws }) : wpAny (model P w) A (setItem (.ref d) v z) Q E s := by
  unfold setItem
  try with_reducible refine wpAny_holding ?_
  refine wpAny_bind (wpAny_sequenceKey hD.ty (by decide) (wpAny_bind (wpAny_callSpecial?_slot (name := Str.ofString "__setitem__") hD.ty PySem.F.slot_dict_setitem
    (wpAny_call_entry PySem.F.slot_dict_setitem hD.ty PySem.F.entry_dict_setitem ?_ (PySem.F.args_dict_setitem_3 _ _ _)))))
  show wpAny _ _ (Builtin.Dict.notOrdered "__setitem__" ⟨[.ref d, v, z], []⟩ >>= _) _ _ s
  refine wpAny_bind (wpAny_notOrdered_dict hD.ty ?_)
  show wpAny _ _ (dictSet d v z >>= _) _ _ s
  obtain ⟨o, es, ep, ho, hc, hd, he, hn⟩ := hD
  refine wpAny_bind ?_
  unfold dictSet
  try with_reducible refine wpAny_holding ?_
  refine wpAny_bind (pyHash_key k v _ s _ hk hu ?_)
  unfold dictSetHashed
  try with_reducible refine wpAny_holding ?_
  refine wpAny_bind (kn_find (s := { s with toks := s.toks + k.draws }) hv hk hu ho hd he his hn safe (fun h => ?_) fun j x hj e => absurd e (new x (List.mem_of_getElem? hj)))
  refine wpAny_bind (wpAny_rule (wpAny_updateDictKeys (hz := by rw [kn_size he]; exact hsz) (s := { s with toks := s.toks + k.draws }) ho hd (wpAny_pure ⟨.none, rfl, wpAny_pure (q _ ⟨_, _, ep + 1, Heap.get?_update_self _ ho (Obj.isFreed_of_dict (Obj.data_mapDictKeys hd _)),
    hc.mapDictKeys _, Obj.data_mapDictKeys hd _, ?_, ?_⟩ (Heap.SameBut.update ..))⟩)))
  · simp [he, knE]
  · rw [List.map_append, List.nodup_append]
    refine ⟨hn, by simp, fun a ha b hb => ?_⟩
    simp only [List.map_cons, List.map_nil, List.mem_singleton] at hb
    subst hb
    obtain ⟨x, hx, rfl⟩ := List.mem_map.mp ha
    exact new x hx
end
end UC
set_option Elab.async false
set_option linter.all false
set_option maxRecDepth 100000
set_option maxHeartbeats 8000000
/-! Kinds as data; dicts from kinds to values. -/
namespace UC
open PySem PySem.Spec PyProof.Rows L2
/-- a kind: a letter, or what turns the one into the other -/
inductive Kd where
  | lt (n : Nat)
  | ar (a b : Kd)
  deriving DecidableEq
namespace Kd
def key : Kd → NestedKey
  | .lt n => .num (n : Int)
  | .ar a b => .tup [a.key, b.key]
def depth : Kd → Nat
  | .lt _ => 0
  | .ar a b => max a.depth b.depth + 1
/-- how many letters -/
def size : Kd → Nat
  | .lt _ => 1
  | .ar a b => a.size + b.size
theorem key_inj : ∀ {a b : Kd}, a.key = b.key → a = b
  | .lt n, .lt m, h => by
    have e : (n : Int) = (m : Int) := NestedKey.num.inj h
    have : n = m := by omega
    rw [this]
  | .lt _, .ar _ _, h => nomatch h
  | .ar _ _, .lt _, h => nomatch h
  | .ar a b, .ar c d, h => by
    have e : [a.key, b.key] = [c.key, d.key] := NestedKey.tup.inj h
    injection e with e1 e2
    injection e2 with e2 _
    rw [key_inj e1, key_inj e2]
theorem key_depth : ∀ a : Kd, a.key.depth = a.depth
  | .lt _ => rfl
  | .ar a b => by
    show max a.key.depth (max b.key.depth 0) + 1 = max a.depth b.depth + 1
    rw [key_depth a, key_depth b, Nat.max_zero]
theorem size_pos : ∀ a : Kd, 0 < a.size
  | .lt _ => Nat.one_pos
  | .ar a b => Nat.lt_of_lt_of_le (size_pos a) (Nat.le_add_right _ _)
theorem depth_lt : ∀ a : Kd, a.depth < a.size
  | .lt _ => Nat.one_pos
  | .ar a b => by
    have h1 := depth_lt a
    have h2 := depth_lt b
    have h3 := size_pos a
    have h4 := size_pos b
    show max a.depth b.depth + 1 < a.size + b.size
    omega
end Kd
/-- the value v is the kind k -/
def KdAt (H : Hp) : Kd → V → Prop
  | .lt n, v => v = nV n
  | .ar a b, v => ∃ p x y, v = .ref p ∧ H p = some (.tup [x, y]) ∧ KdAt H a x ∧ KdAt H b y
theorem KdAt.same {H H' : Hp} (e : Same H H') : ∀ {k : Kd} {v : V}, KdAt H k v → KdAt H' k v
  | .lt _, _, h => h
  | .ar _ _, _, ⟨p, x, y, h1, h2, h3, h4⟩ => ⟨p, x, y, h1, e _ _ h2, KdAt.same e h3, KdAt.same e h4⟩
theorem KdAt.inj {H : Hp} : ∀ {a b : Kd} {v : V}, KdAt H a v → KdAt H b v → a = b
  | .lt n, .lt m, v, h, g => by
    have h : v = nV n := h
    have g : v = nV m := g
    rw [h] at g
    injection g with g
    have : n = m := by omega
    rw [this]
  | .lt n, .ar _ _, v, h, ⟨p, _, _, g, _⟩ => by
    have h : v = nV n := h
    rw [h] at g
    cases g
  | .ar _ _, .lt n, v, ⟨p, _, _, g, _⟩, h => by
    have h : v = nV n := h
    rw [h] at g
    cases g
  | .ar a b, .ar c d, v, ⟨p, x, y, h1, h2, h3, h4⟩, ⟨q, z, u, g1, g2, g3, g4⟩ => by
    rw [h1] at g1
    cases g1
    rw [h2] at g2
    cases g2
    rw [KdAt.inj h3 g3, KdAt.inj h4 g4]
section
variable {X : Cx} {pins : List (Addr × Obj)} {σ : L2.St} {H : Hp} {s : Shared}
theorem KdAt.is (I : Inv X pins σ H s) : ∀ {k : Kd} {v : V} {u : Value}, KdAt H k v → RelV v u → NestedIs s.heap k.key u ∧ knV u = true
  | .lt n, v, u, h, r => by
    cases (show v = nV n from h)
    obtain ⟨t, rfl⟩ := r
    exact ⟨.int _ t, rfl⟩
  | .ar a b, v, u, ⟨p, x, y, h1, h2, h3, h4⟩, r => by
    subst h1
    cases r
    obtain ⟨_, its, rv, o, ho, hc, n, hd⟩ := I.hok p _ h2
    obtain ⟨u1, u2, rfl, r1, r2⟩ := vals2 rv
    exact ⟨.tup ho hc hd (.cons (KdAt.is I h3 r1).1 (.cons (KdAt.is I h4 r2).1 .nil)), rfl⟩
end
/-- an entry: kind, its value, what is kept -/
abbrev KnY := Kd × V × V
def knR (y : KnY) (x : KnX) : Prop := y.1.key = x.1 ∧ RelV y.2.1 x.2.1 ∧ RelV y.2.2 x.2.2
/-- the dict at d -/
def KnO (w : World) (d : Addr) (ys : List KnY) : HO := .ext fun h => (d == sysModules) = false ∧ ys.length ≤ sizeLine ∧ ∃ xs : List KnX, Paired knR ys xs ∧ KnAt w h d xs
theorem KnAt.stay {w : World} {h h2 : Heap} {d : Addr} {xs : List KnX} (D : KnAt w h d xs) (k : ∀ o, h.get? d = some o → h2.get? d = some o) : KnAt w h2 d xs := by
  obtain ⟨o, es, ep, ho, r⟩ := D
  exact ⟨o, es, ep, k o ho, r⟩
theorem knO_ok {P : Program} {w : World} {H : Hp} {h : Heap} {d : Addr} {ys : List KnY} {xs : List KnX} (low : (d == sysModules) = false) (l : ys.length ≤ sizeLine) (r : Paired knR ys xs) (D : KnAt w h d xs) : ObjOk P w H h d (KnO w d ys) := by
  have ⟨o, _, _, ho, _⟩ := D
  exact ⟨⟨low, l, xs, r, D⟩, ⟨o, ho⟩, fun h1 h2 ⟨a, b, xs, c, e⟩ k => ⟨a, b, xs, c, e.stay k⟩⟩
theorem pairedMem {α β : Type} {F : α → β → Prop} : ∀ {l₁ : List α} {l₂ : List β} {y : β}, Paired F l₁ l₂ → y ∈ l₂ → ∃ x ∈ l₁, F x y
  | _, _, y, .nil, h => by cases h
  | _, _, y, .cons r t, h => by
    rcases List.mem_cons.mp h with e | h
    · subst e
      exact ⟨_, List.mem_cons_self, r⟩
    · obtain ⟨x, a, b⟩ := pairedMem t h
      exact ⟨x, List.mem_cons_of_mem _ a, b⟩
def knGet (ys : List KnY) (k : Kd) : Option V := (ys.find? fun y => decide (y.1 = k)).map (·.2.2)
theorem knGet_rel {ys : List KnY} {xs : List KnX} (r : Paired knR ys xs) (k : Kd) : (knGet ys k = none ∧ knLook xs k.key = none) ∨ ∃ z u, knGet ys k = some z ∧ knLook xs k.key = some u ∧ RelV z u := by
  unfold knGet knLook
  induction r with
  | nil => exact .inl ⟨rfl, rfl⟩
  | @cons y x ys xs h t ih =>
    obtain ⟨h1, h2, h3⟩ := h
    by_cases e : y.1 = k
    · have e2 : x.1 = k.key := by rw [← h1, e]
      refine .inr ⟨y.2.2, x.2.2, ?_, ?_, h3⟩
      · simp [List.find?_cons, e]
      · simp [List.find?_cons, e2]
    · have e2 : ¬ x.1 = k.key := fun z => e (Kd.key_inj (h1.trans z))
      simpa [List.find?_cons, e, e2] using ih
/-- no two deep kinds of one hash meet -/
def KSafe (w : World) (ys : List KnY) (k : Kd) (v : V) : Prop := ∀ y ∈ ys, y.1.key.hash w = k.key.hash w → (y.1 = k ∧ y.2.1 = v ∧ ∃ a, v = .ref a) ∨ (y.1.depth ≤ 8 ∧ k.depth ≤ 8)
theorem KSafe.lib {w : World} {ys : List KnY} {xs : List KnX} {k : Kd} {v : V} {u : Value} (h : KSafe w ys k v) (r : Paired knR ys xs) (rv : RelV v u) : KnSafe w xs k.key u := fun x hx e => by
  obtain ⟨y, hy, h1, h2, h3⟩ := pairedMem r hx
  rcases h y hy (by rw [h1]; exact e) with ⟨a, b, c, rfl⟩ | ⟨a, b⟩
  · rw [b] at h2
    have e1 : u = Value.ref c := rv
    have e2 : x.2.1 = Value.ref c := h2
    exact .inl ⟨by rw [← h1, a], e2.trans e1.symm, c, e1⟩
  · refine .inr ⟨?_, ?_⟩
    · rw [← h1, Kd.key_depth]
      exact a
    · rw [Kd.key_depth]
      exact b
/-- what a look at the dict asks: x the dict, y the kind -/
def KnAsk (w : World) (H : Hp) (x y : V) (d : Addr) (ys : List KnY) (k : Kd) : Prop := x = .ref d ∧ H d = some (KnO w d ys) ∧ KdAt H k y ∧ k.depth ≤ 40 ∧ (∀ e ∈ ys, KdAt H e.1 e.2.1) ∧ KSafe w ys k y
section
variable {X : Cx} {o i value : Expr} {td ty tv : TE} {pos pos' : Pos}
theorem knAsk_get {pins : List (Addr × Obj)} {σ : L2.St} {H : Hp} {s : Shared} {x y : V} {d : Addr} {ys : List KnY} {k : Kd} {u : Value} (I : Inv X pins σ H s) (a : KnAsk X.w H x y d ys k) (ry : RelV y u) :
    (d == sysModules) = false ∧ ys.length ≤ sizeLine ∧ ∃ xs, Paired knR ys xs ∧ KnAt X.w s.heap d xs ∧ NestedIs s.heap k.key u ∧ knV u = true ∧ (∀ x ∈ xs, NestedIs s.heap x.1 x.2.1) ∧ KnSafe X.w xs k.key u := by
  obtain ⟨_, hd, hk, _, he, safe⟩ := a
  obtain ⟨⟨low, l, xs, r, D⟩, _, _⟩ := I.hok d _ hd
  obtain ⟨n1, n2⟩ := KdAt.is I hk ry
  refine ⟨low, l, xs, r, D, n1, n2, fun x hx => ?_, safe.lib r ry⟩
  obtain ⟨e, hy, h1, h2, h3⟩ := pairedMem r hx
  rw [← h1]
  exact (KdAt.is I (he e hy) h2).1
def tKIn (w : World) (neg : Bool) (ty td : TE) : TE := fun σ H Q => ty σ H fun y H1 => td σ H1 fun x H2 => ∃ d ys k, KnAsk w H2 x y d ys k ∧ Q (.bl (if neg then !(knGet ys k).isSome else (knGet ys k).isSome)) H2
theorem isSome_rel {ys : List KnY} {xs : List KnX} (r : Paired knR ys xs) (k : Kd) : (knLook xs k.key).isSome = (knGet ys k).isSome := by
  rcases knGet_rel r k with ⟨a, b⟩ | ⟨z, u, a, b, _⟩ <;> rw [a, b] <;> rfl
theorem pc_kin (hu : X.A.units + 64 < cLine) (hi : PE X i ty) (ho : PE X o td) : PC X .In i o (tKIn X.w false ty td) := by
  refine ⟨fun pins s σ H Q I h => ?_⟩
  refine thn (hi.run pins s σ H _ I h) fun iv s1 ⟨y, H1, I1, ry, q1⟩ => thn (ho.run pins s1 σ H1 _ I1 q1) fun u s2 ⟨x, H2, I2, rx, d, ys, k, a, q2⟩ => ?_
  obtain ⟨low, l, xs, r, D, n1, n2, n3, n4⟩ := knAsk_get I2 a ry
  cases a.1
  cases rx
  have dk : k.key.depth ≤ 40 := by rw [Kd.key_depth]; exact a.2.2.2.1
  refine kn_in n2 n1 (by rw [Around.in1_units]; omega) low D n3 n4 ⟨.bl (knGet ys k).isSome, H2, I2.tok _, ?_, q2⟩
  rw [isSome_rel r k]
  rfl
theorem pc_knotin (hu : X.A.units + 64 < cLine) (hi : PE X i ty) (ho : PE X o td) : PC X .NotIn i o (tKIn X.w true ty td) := by
  refine ⟨fun pins s σ H Q I h => ?_⟩
  refine thn (hi.run pins s σ H _ I h) fun iv s1 ⟨y, H1, I1, ry, q1⟩ => thn (ho.run pins s1 σ H1 _ I1 q1) fun u s2 ⟨x, H2, I2, rx, d, ys, k, a, q2⟩ => ?_
  obtain ⟨low, l, xs, r, D, n1, n2, n3, n4⟩ := knAsk_get I2 a ry
  cases a.1
  cases rx
  have dk : k.key.depth ≤ 40 := by rw [Kd.key_depth]; exact a.2.2.2.1
  refine kn_notin n2 n1 (by rw [Around.in1_units]; omega) low D n3 n4 ⟨.bl (!(knGet ys k).isSome), H2, I2.tok _, ?_, q2⟩
  rw [isSome_rel r k]
  rfl
theorem pc_knotinW {w : World} (e : X.w = w) (hu : X.A.units + 64 < cLine) (hi : PE X i ty) (ho : PE X o td) : PC X .NotIn i o (tKIn w true ty td) := by
  rw [← e]
  exact pc_knotin hu hi ho
def tKGet (w : World) (td ty : TE) : TE := fun σ H Q => td σ H fun x H1 => ty σ H1 fun y H2 => ∃ d ys k z, KnAsk w H2 x y d ys k ∧ knGet ys k = some z ∧ Q z H2
theorem pe_kget (hu : X.A.units + 64 < cLine) (ho : PE X o td) (hi : PE X i ty) (hs : NoSl i) : PE X (.Subscript o i pos) (tKGet X.w td ty) := by
  refine ⟨fun pins s σ H Q I h => ?_⟩
  refine subD_of PySem.F.slot_dict_getitem.lookup hs (thn (ho.run pins s σ H _ I h) fun u s1 ⟨x, H1, I1, rx, q1⟩ => thn (hi.run pins s1 σ H1 _ I1 q1) fun iv s2 ⟨y, H2, I2, ry, d, ys, k, z, a, hz, q2⟩ => ?_)
  obtain ⟨low, l, xs, r, D, n1, n2, n3, n4⟩ := knAsk_get I2 a ry
  cases a.1
  cases rx
  have dk : k.key.depth ≤ 40 := by rw [Kd.key_depth]; exact a.2.2.2.1
  refine ⟨D.ty, ?_⟩
  rcases knGet_rel r k with ⟨e1, e2⟩ | ⟨z2, u2, e1, e2, rz⟩
  · rw [hz] at e1
    cases e1
  · rw [hz] at e1
    cases e1
    exact kn_item n2 n1 (by rw [Around.in1_units]; omega) D n3 n4 e2 ⟨z, H2, I2.tok _, rz, q2⟩
def sKPut (w : World) (td ty tv : TE) : TS := fun D σ H => tv σ H fun v H1 => td σ H1 fun x H2 => ty σ H2 fun y H3 => ∃ d ys k, KnAsk w H3 x y d ys k ∧ knGet ys k = none ∧ ys.length < sizeLine ∧ D.nx σ (upd H3 d (KnO w d (ys ++ [(k, y, v)])))
theorem ps_kput (hu : X.A.units + 64 < cLine) (ho : PE X o td) (hi : PE X i ty) (hv : PE X value tv) (hs : swapsWith value (some (.Subscript o i pos')) pos.line X.env = pure false) : PS X (.Assign [.Subscript o i pos'] value pos) (sKPut X.w td ty tv) := by
  refine ⟨fun pins s σ H D I h => ?_⟩
  refine wpAny_Assign_Subscript (thn (hv.run pins s σ H _ I h) fun rr s1 ⟨v, H1, I1, rv, q1⟩ => thn (ho.run pins s1 σ H1 _ I1 q1) fun u s2 ⟨x, H2, I2, rx, q2⟩ => thn (hi.run pins s2 σ H2 _ I2 q2) fun iv s3 ⟨y, H3, I3, ry, d, ys, k, a, hz, hl, q3⟩ => ?_) hs
  obtain ⟨low, l, xs, r, D0, n1, n2, n3, n4⟩ := knAsk_get I3 a ry
  cases a.1
  cases rx
  have dk : k.key.depth ≤ 40 := by rw [Kd.key_depth]; exact a.2.2.2.1
  have len := pairedLen r
  have new : ∀ x ∈ xs, x.1 ≠ k.key := fun x hx e => by
    rcases knGet_rel r k with ⟨e1, e2⟩ | ⟨z2, u2, e1, e2, rz⟩
    · unfold knLook at e2
      rw [Option.map_eq_none_iff] at e2
      exact absurd (decide_eq_true e) (List.find?_eq_none.mp e2 x hx)
    · rw [hz] at e1
      cases e1
  refine kn_put n2 n1 (by rw [Around.in1_units]; omega) D0 n3 n4 new (by omega) fun h2 D2 sb => ⟨σ, upd H3 d (KnO X.w d (ys ++ [(k, y, v)])), ?_, q3⟩
  have ⟨ob, _, _, hob, _⟩ := D2
  exact I3.write (e := d) (by rw [a.2.1]; exact True.intro) (.inl rfl) (fun b u hb hu => (sb.2 b hb).trans hu) ⟨ob, hob⟩ (knO_ok low (by rw [List.length_append]; exact hl) (pairedSnoc r ⟨rfl, ry, rv⟩) D2)
/-- {}, to be a dict of kinds -/
def tKNew (w : World) : TE := fun _ H Q => ∀ p, H p = none → Q (.ref p) (upd H p (KnO w p []))
theorem pe_knew : PE X (.Dict [] [] pos) (tKNew X.w) := by
  refine ⟨fun pins s σ H Q I h => ?_⟩
  refine wpAny_Dict_empty ⟨.ref s.heap.objs.size, upd H s.heap.objs.size (KnO X.w s.heap.objs.size []), I.laid (t' := s.toks) (fun _ _ q => Heap.get?_push_of_some _ q) (Nat.le_refl _) ?_, rfl, h _ (I.hok.fresh (Nat.le_refl _))⟩
  obtain ⟨_, low, _, _, _⟩ := dk_empty (P := X.prog) (w := X.w) (H := upd H s.heap.objs.size (.dK [])) s.heap I.big
  exact knO_ok low (Nat.zero_le _) .nil ⟨_, #[], 0, Heap.get?_push_size _ rfl, ⟨rfl, rfl, rfl⟩, rfl, rfl, List.nodup_nil⟩
end
end UC
set_option Elab.async false
set_option linter.all false
set_option maxRecDepth 100000
set_option maxHeartbeats 8000000
/-! A rule that the layer lacks: a dict comprehension over any walk. -/
namespace UC
open PySem PySem.Spec PyProof.Rows L2
theorem dc_it {J : It} {n : Nat} {G : Hp → Prop} {Y : Nat → Hp → V → Hp → Prop} (wk : Walk J n G Y) {g : TG} {tt : TT} {tk tv : TE} {us : List Nat} {σ : L2.St} {Ha : Hp} {D : Addr} {Qd : Hp → Prop} (Pv : Nat → Hp → Prop) (p0 : Pv 0 (upd Ha D (.dK [])))
    (pG : ∀ i H, i ≤ n → Pv i H → G H)
    (turn : ∀ i x H Hb, i < n → Pv i H → Y i H x Hb → g x (wipe σ us) Hb fun σb Hc => wipe σb us = wipe σ us ∧ tt σb Hc fun b Hd =>
      if b = true then tk σb Hd fun y He => tv σb He fun z Hf => ∃ kvs k, y = kV k ∧ Hf D = some (.dK kvs) ∧ kvs.length < sizeLine ∧ Pv (i + 1) (upd Hf D (.dK (putK kvs k z))) else Pv (i + 1) Hd)
    (fin : ∀ H, Pv n H → Qd H) :
    ∃ W : Nat → Nat → Hp → Prop, (∃ m, W 0 m (upd Ha D (.dK []))) ∧ ∀ i m H, W i m H →
      (J.stop i H ∧ Qd H) ∨ (J.go i H ∧ ∃ Nx : Hp → Prop, (∀ Hb, Nx Hb → ∃ m', m' < m ∧ W (i + 1) m' Hb) ∧ ∀ x Hb, J.yld i H x Hb → g x (wipe σ us) Hb fun σb Hc => wipe σb us = wipe σ us ∧ tt σb Hc fun b Hd =>
        if b = true then tk σb Hd fun y He => tv σb He fun z Hf => ∃ kvs k, y = kV k ∧ Hf D = some (.dK kvs) ∧ kvs.length < sizeLine ∧ Nx (upd Hf D (.dK (putK kvs k z))) else Nx Hd) := by
  refine ⟨fun i m H => m = n - i ∧ i ≤ n ∧ Pv i H, ⟨n, by omega, by omega, p0⟩, fun i m H hW => ?_⟩
  obtain ⟨em, hi, pv⟩ := hW
  have gh := pG i H hi pv
  rcases Nat.lt_or_eq_of_le hi with lt | eq
  · exact .inr ⟨wk.goes i H lt gh, Pv (i + 1), fun Hb pb => ⟨n - (i + 1), by omega, rfl, lt, pb⟩, fun x Hb y => turn i x H Hb lt pv (wk.yields i H x Hb lt gh y)⟩
  · rw [eq] at pv ⊢
    exact .inl ⟨wk.stops H gh, fin H pv⟩
end UC
set_option Elab.async false
set_option linter.all false
set_option maxRecDepth 100000
set_option maxHeartbeats 4000000
/-! Data: lists and tuples of numbers under ==. -/
namespace UC
open PySem PySem.Spec PyProof.Rows L2
def dN (ns : List Nat) : List PyData := ns.map fun (n : Nat) => PyData.int (n : Int)
section
variable {K : PySem.W.Frag} {H : Hp}
theorem dpAll_N : ∀ ns : List Nat, DpAll K H (ns.map nV) (dN ns)
  | [] => .nil
  | n :: ns => .cons (.int _) (dpAll_N ns)
theorem dp_NL {a : Addr} {ns : List Nat} (h : NL K H a ns) : Dp K H (.ref a) (.list (dN ns)) := .lst h (dpAll_N ns)
theorem dp_NT {a : Addr} {ns : List Nat} (h : NT K H a ns) : Dp K H (.ref a) (.tuple (dN ns)) := .tup h (dpAll_N ns)
end
theorem lay_N : ∀ ns : List Nat, PyData.canLayAll0 (dN ns) = true
  | [] => rfl
  | n :: ns => by
    show (PyData.canLay0 (.int (n : Int)) && PyData.canLayAll0 (dN ns)) = true
    rw [lay_N ns]
    rfl
theorem dep_N : ∀ ns : List Nat, PyData.depthAll (dN ns) = 0
  | [] => rfl
  | n :: ns => by
    show max (PyData.depth (.int (n : Int))) (PyData.depthAll (dN ns)) = 0
    rw [dep_N ns]
    rfl
theorem shaped_L (ns : List Nat) : SeqAt.shaped (.list (dN ns)) = true := by
  show (PyData.canLayAll0 (dN ns) && decide (PyData.depthAll (dN ns) + 1 ≤ 64)) = true
  rw [lay_N, dep_N]
  rfl
theorem shaped_T (ns : List Nat) : SeqAt.shaped (.tuple (dN ns)) = true := by
  show (PyData.canLayAll0 (dN ns) && decide (PyData.depthAll (dN ns) + 1 ≤ 64)) = true
  rw [lay_N, dep_N]
  rfl
theorem eqvAll_N (ns ms : List Nat) : PyData.eqvAll (dN ns) (dN ms) = decide (ns = ms) := by
  have e : ∀ xs : List Nat, dN xs = (xs.map fun (n : Nat) => (n : Int)).map PyData.int := fun xs => by
    rw [List.map_map]
    rfl
  rw [e, e, PySem.W.ked_eqvAll, decide_eq_decide]
  refine ⟨fun h => ?_, fun h => by rw [h]⟩
  exact List.map_inj_right (fun x y z => by omega) |>.mp h
theorem eqv_L (ns ms : List Nat) : PyData.eqv (.list (dN ns)) (.list (dN ms)) = decide (ns = ms) := by
  rw [PyData.eqv, eqvAll_N]
theorem eqv_T (ns ms : List Nat) : PyData.eqv (.tuple (dN ns)) (.tuple (dN ms)) = decide (ns = ms) := by
  rw [PyData.eqv, eqvAll_N]
section
variable {X : Cx} {K : PySem.W.Frag}
theorem op_inK (e : X.K = K) : OpR X (compareOp .In) (rIn K false) := by
  rw [← e]
  exact op_in_seq
theorem ix_tupK (e : X.K = K) : IxR X (rIxT K) := by
  rw [← e]
  exact ix_tup
theorem ix_listK (e : X.K = K) : IxR X (rIxL K) := by
  rw [← e]
  exact ix_list
theorem call_lenK (e : X.K = K) : CallR X (.builtin "len") (fun xs H Q => ∃ x n, xs = [x] ∧ LenV K x H n ∧ Q (.int n) H) := by
  rw [← e]
  exact call_len
theorem call_isiK2 (e : X.K = K) : CallR X (.builtin "isinstance") (rIsi K) := by
  rw [← e]
  exact call_isi
theorem cr_allK (e : X.K = K) (hc : X.calm = true) : CallR X (.builtin "all") (rAll K) := by
  rw [← e]
  exact cr_all hc
theorem cr_anyK (e : X.K = K) (hc : X.calm = true) : CallR X (.builtin "any") (rAny K) := by
  rw [← e]
  exact cr_any hc
theorem call_tuple_ofK (e : X.K = K) : CallR X (.type "tuple") (fun xs H Q => ∃ p ys, xs = [.ref p] ∧ ((SqL K H p ys ∧ ∀ l, H l = none → Q (.ref l) (upd H l (.tup ys))) ∨ (SqT K H p ys ∧ Q (.ref p) H))) := by
  rw [← e]
  exact call_tuple_of
theorem cr_sortedIK (e : X.K = K) : CallR X (.builtin "sorted") (rSortedI K) := by
  rw [← e]
  exact cr_sortedI
theorem pi_listK {tg l : Expr} {tl : TE} (e : X.K = K) (hl : PE X l tl) : PI X tg l (iList K tl) := by
  rw [← e]
  exact pi_list hl
theorem pi_tupK {tg l : Expr} {tl : TE} (e : X.K = K) (hl : PE X l tl) : PI X tg l (iTup K tl) := by
  rw [← e]
  exact pi_tup hl
theorem pe_bmK {T : String} {name : Str} {id : String} {r : V → List V → Hp → VK → Prop} {o x : Expr} {xs : List Expr} {to : TE} {t : TA} {apos cpos : Pos} (eK : X.K = K) (pa : PlainAttrs T) (slot : Slot T name id) (hty : typeOf (.builtin id) = pure (.type "method_descriptor")) (hm : MtR X id r) (ho : PE X o to) (ha : PA X (x :: xs) t)
    (base : attributeBase o name X.env (eval o X.env) = eval o X.env := by rfl)
    (few : ((backTo cpos (starEach (x :: xs) X.env)).all (fun x => !x.1) && (backToKw cpos (keywordEach [] X.env)).all (fun x => x.1.isSome)
      && decide ((x :: xs).length + ([] : List Keyword).length + (if ([] : List Keyword).isEmpty then 0 else 1) < 30)) = true := by rfl)
    (line : (apos.endLine == cpos.line) = true := by rfl) (st : starEach (x :: xs) X.env = (false, eval x X.env) :: starEach xs X.env := by rfl) (pl : (backTo cpos (starEach xs X.env)).any (·.1) = false := by rfl) :
    PE X (.Call (.Attribute o name apos) (x :: xs) [] cpos) (tBM K T r to t) := by
  rw [← eK]
  exact pe_bm pa slot hty hm ho ha base few line st pl
theorem mt_indexK (e : X.K = K) : MtR X "list.index" (rIndex K) := by
  rw [← e]
  exact mt_index
theorem op_notInK (e : X.K = K) : OpR X (compareOp .NotIn) (rIn K true) := by
  rw [← e]
  exact op_notIn_seq
end
section
variable {K : PySem.W.Frag} {H : Hp} {a b : Addr} {ns ms : List Nat} {Q : VK}
theorem rEqL (h : NL K H a ns) (g : NL K H b ms) (q : Q (.bl (decide (ns = ms))) H) : rEqD K (.ref a) (.ref b) H Q :=
  ⟨_, _, dp_NL h, dp_NL g, shaped_L ns, shaped_L ms, qb q (eqv_L ns ms).symm⟩
theorem rEqT (h : NT K H a ns) (g : NT K H b ms) (q : Q (.bl (decide (ns = ms))) H) : rEqD K (.ref a) (.ref b) H Q :=
  ⟨_, _, dp_NT h, dp_NT g, shaped_T ns, shaped_T ms, qb q (eqv_T ns ms).symm⟩
theorem rNeL (h : NL K H a ns) (g : NL K H b ms) (q : Q (.bl (!decide (ns = ms))) H) : rNeD K (.ref a) (.ref b) H Q :=
  ⟨_, _, dp_NL h, dp_NL g, shaped_L ns, shaped_L ms, qb q (by rw [eqv_L])⟩
end
end UC
set_option Elab.async false
set_option linter.all false
set_option maxRecDepth 100000
set_option maxHeartbeats 4000000
/-! Small checks. -/
namespace UC
open PySem PySem.Spec PyProof.Rows L2
section
variable {P : Program} {w : World} {K : PySem.W.Frag} {mg : Str → Option Value} {base : Heap}
/-! is_integer of an int -/
def sp_is_integer : Sp := fun vs H Q _ => ∃ i : Int, vs = [.int i] ∧ Q (.bl true) H
theorem sc_is_integer : FnScope ["thing"] ["thing"] (defScope s_is_integer) := ⟨rfl, rfl, rfl, by decide +kernel, rfl, by decide +kernel, by decide +kernel⟩
theorem ok_is_integer (T : Txt K mg) : Pr P w K mg base 1 "is_integer" ["thing"] sp_is_integer := by
  refine T.d_is_integer.pr sc_is_integer (fun vs H Q E h => ?_) (fun _ _ _ _ _ _ us hl => match us, hl with | [_], _ => rfl) (fun f cdv A outer s H vs Q E hr h => ?_)
  · obtain ⟨i, rfl, _⟩ := h
    rfl
  · obtain ⟨i, rfl, k⟩ := h
    refine ⟨_, (pss_one (ps_ret (pe_and (pe_callB call_isi rfl T.b_isinstance (by decide +kernel) (pa_cons (pv 0) (pa_cons (pe_bltn (v := .ty "int") (by rfl) T.b_int (by decide +kernel) rfl) pa_nil))) (pe_one (pe_not (pe_callB call_isi rfl T.b_isinstance (by decide +kernel) (pa_cons (pv 0) (pa_cons (pe_bltn (v := .ty "bool") (by rfl) T.b_bool (by decide +kernel) rfl) pa_nil)))))))), ?_⟩
    simp only [st_c, st_n, st_0]
    refine ⟨_, rfl, _, _, _, _, true, rfl, .ty _, .base (.int i), kit_ty (by decide +kernel), true, rfl, iteT ?_⟩
    exact ⟨_, rfl, _, _, _, _, false, rfl, .ty _, .base (.int i), kit_ty (by decide +kernel), false, rfl, k⟩
/-! is_within of ints -/
def sp_is_within : Sp := fun vs H Q _ => ∃ i lo hi : Int, vs = [.int i, .int lo, .int hi] ∧ Q (.bl (decide (lo ≤ i ∧ i ≤ hi))) H
theorem sc_is_within : FnScope ["thing", "least", "most"] ["thing", "least", "most"] (defScope s_is_within) := ⟨rfl, rfl, rfl, by decide +kernel, rfl, by decide +kernel, by decide +kernel⟩
theorem ok_is_within (T : Txt K mg) : Pr P w K mg base 2 "is_within" ["thing", "least", "most"] sp_is_within := by
  have G_is_integer : Pr P w K mg base 1 "is_integer" _ _ := ok_is_integer T
  refine T.d_is_within.pr sc_is_within (fun vs H Q E h => ?_) (fun _ _ _ _ _ _ us hl => match us, hl with | [_, _, _], _ => rfl) (fun f cdv A outer s H vs Q E hr h => ?_)
  · obtain ⟨i, lo, hi, rfl, _⟩ := h
    rfl
  · obtain ⟨i, lo, hi, rfl, k⟩ := h
    refine ⟨_, (pss_one (ps_ret (pe_and (pe_callP G_is_integer hr (by decide) (pa_cons (pv 0) pa_nil)) (pe_one (pe_chain op_le op_le (pv 1) (pv 0) (pv 2)))))), ?_⟩
    simp only [st_c, st_n, st_0]
    refine ⟨_, rfl, i, rfl, true, rfl, iteT ?_⟩
    refine ⟨_, rfl, _, rfl, _, _, rfl, rfl, _, rfl, ?_⟩
    by_cases h1 : lo ≤ i
    · rw [decide_eq_true h1]
      refine iteT ⟨_, rfl, _, _, rfl, rfl, ?_⟩
      have e : decide (lo ≤ i ∧ i ≤ hi) = decide (i ≤ hi) := by simp [h1]
      exact qb k e
    · rw [decide_eq_false h1]
      have e : decide (lo ≤ i ∧ i ≤ hi) = false := by simp [h1]
      rw [e] at k
      exact iteF k
/-! is_pair of an int, of a tuple -/
def sp_is_pair (K : PySem.W.Frag) : Sp := fun vs H Q _ => (∃ i : Int, vs = [.int i] ∧ Q (.bl false) H) ∨ ∃ (a : Addr) (xs : List V), vs = [.ref a] ∧ H a = some (.tup xs) ∧ Q (.bl (decide (xs.length = 2))) H
theorem sc_is_pair : FnScope ["thing"] ["thing"] (defScope s_is_pair) := ⟨rfl, rfl, rfl, by decide +kernel, rfl, by decide +kernel, by decide +kernel⟩
theorem ok_is_pair (T : Txt K mg) : Pr P w K mg base 1 "is_pair" ["thing"] (sp_is_pair K) := by
  refine T.d_is_pair.pr sc_is_pair (fun vs H Q E h => ?_) (fun _ _ _ _ _ _ us hl => match us, hl with | [_], _ => rfl) (fun f cdv A outer s H vs Q E hr h => ?_)
  · rcases h with ⟨i, rfl, _⟩ | ⟨a, xs, rfl, _⟩ <;> rfl
  · refine ⟨_, (pss_one (ps_ret (pe_and (pe_callB call_isi rfl T.b_isinstance (by decide +kernel) (pa_cons (pv 0) (pa_cons (pe_bltn (v := .ty "tuple") (by rfl) T.b_tuple (by decide +kernel) rfl) pa_nil))) (pe_one (pe_cmpR op_eq (pe_callB call_len rfl T.b_len (by decide +kernel) (pa_cons (pv 0) pa_nil)) pe_int (nomark _)))))), ?_⟩
    simp only [st_c, st_n, st_0]
    rcases h with ⟨i, rfl, k⟩ | ⟨a, xs, rfl, ha, k⟩
    · exact ⟨_, rfl, _, _, _, _, false, rfl, .ty _, .base (.int i), kit_ty (by decide +kernel), false, rfl, iteF k⟩
    · refine ⟨_, rfl, _, _, _, _, true, rfl, .ty _, .base (.tup ha), kit_ty (by decide +kernel), true, rfl, iteT ?_⟩
      refine ⟨_, rfl, _, xs.length, rfl, .inr ⟨_, SqT.of ha, rfl⟩, rfl, ?_⟩
      have e : decide (V.int (xs.length : Int) = V.int 2) = decide (xs.length = 2) := by
        by_cases q : xs.length = 2
        · rw [q] <;> rfl
        · rw [decide_eq_false q]
          exact decide_eq_false fun z => q (by injection z with z; omega)
      exact qb k e.symm
end
end UC
set_option Elab.async false
set_option linter.all false
set_option maxRecDepth 100000
set_option maxHeartbeats 4000000
/-! so_often, bits_of, stands_of, looks_of. -/
namespace UC
open PySem PySem.Spec PyProof.Rows L2
section
variable {P : Program} {w : World} {K : PySem.W.Frag} {mg : Str → Option Value} {base : Heap}
/-! so_often -/
def sp_so_often (K : PySem.W.Frag) : Sp := fun vs H Q _ => ∃ (a : Addr) (J : List (List Nat)) (v t : Nat), vs = [.ref a, nV v, nV t] ∧ TblT K H a J ∧ Mon J ∧ v < J.length ∧ Q (nV (ml J t v)) H
theorem sc_so_often : FnScope ["joining", "stand", "times", "found", "power"] ["joining", "stand", "times"] (defScope s_so_often) := ⟨rfl, rfl, rfl, by decide +kernel, rfl, by decide +kernel, by decide +kernel⟩
theorem ok_so_often (T : Txt K mg) : Pr P w K mg base 1 "so_often" ["joining", "stand", "times"] (sp_so_often K) := by
  refine T.d_so_often.pr sc_so_often (fun vs H Q E h => ?_) (fun _ _ _ _ _ _ us hl => match us, hl with | [_, _, _], _ => rfl) (fun f cdv A outer s H vs Q E hr h => ?_)
  · obtain ⟨a, J, v, t, rfl, _⟩ := h
    rfl
  · obtain ⟨a, J, v, t, rfl, hJ, M, hv, k⟩ := h
    refine ⟨_, (pss_cons (ps_s 3 sc_so_often.nd pe_int)
    (pss_cons (ps_s 4 sc_so_often.nd (pv 1))
    (pss_cons (ps_while PassesOwn.never (pt_cmpR op_gt (pv 2) pe_int (nomark _))
      (pss_cons (ps_if (pt_cmpR op_eq (pe_op op_mod (pv 2) pe_int) pe_int (nomark _))
        (pss_one (ps_s 3 sc_so_often.nd (pe_ix ix_tup (pe_ix ix_tup (pv 0) (pv 3) (fun _ _ => rfl)) (pv 4) (fun _ _ => rfl))))
        pss_nil)
      (pss_cons (ps_s 4 sc_so_often.nd (pe_ix ix_tup (pe_ix ix_tup (pv 0) (pv 4) (fun _ _ => rfl)) (pv 4) (fun _ _ => rfl)))
      (pss_one (ps_s 2 sc_so_often.nd (pe_op op_fdiv (pv 2) pe_int))))))
    (pss_one (ps_ret (pv 3)))))), ?_⟩
    simp only [st_c, st_n, st_0]
    refine ⟨_, rfl, fun m σ H' => H' = H ∧ ∃ f p : Nat, σ = [some (.ref a), some (nV v), some (nV m), some (nV f), some (nV p)] ∧ f < J.length ∧ p < J.length ∧ jn J f (ml J m p) = ml J t v, ⟨t, rfl, 0, v, rfl, M.pos, hv, M.id _ (M.ml_lt hv t)⟩, ?_⟩
    rintro m σ H' ⟨rfl, f, p, rfl, hf, hp, e⟩
    refine ⟨_, rfl, _, _, rfl, rfl, _, rfl, ?_⟩
    by_cases hm : (0 : Int) < (m : Int)
    · rw [decide_eq_true hm]
      refine iteT ⟨fun σ' H2 => ∃ m', m' < m ∧ H2 = H' ∧ ∃ f p : Nat, σ' = [some (.ref a), some (nV v), some (nV m'), some (nV f), some (nV p)] ∧ f < J.length ∧ p < J.length ∧ jn J f (ml J m' p) = ml J t v, fun σ' H2 ⟨m', l, e1, e2⟩ => ⟨m', l, e1, e2⟩, ?_⟩
      obtain ⟨rf, e1, e2⟩ := M.at_row hf hp
      obtain ⟨rp, e3, e4⟩ := M.at_row hp hp
      obtain ⟨xs, bf, h1, h2, h3⟩ := hJ.row e1
      obtain ⟨ys, bp, g1, g2, g3⟩ := hJ.row e3
      refine ⟨_, rfl, _, _, rfl, rfl, (by show (0 : Int) < 2; decide), rfl, _, rfl, ?_⟩
      have ed : decide (V.int ((m : Int) % 2) = V.int 1) = decide (m % 2 = 1) := by
        by_cases q : m % 2 = 1
        · rw [decide_eq_true q]
          exact decide_eq_true (by congr 1; omega)
        · rw [decide_eq_false q]
          exact decide_eq_false fun z => q (by injection z with z; omega)
      have half : ((m : Int) / 2) = ((m / 2 : Nat) : Int) := by omega
      rw [ed]
      by_cases q : m % 2 = 1
      · rw [decide_eq_true q]
        refine iteT ⟨_, rfl, _, rfl, _, _, _, _, rfl, rfl, h1, h2, _, rfl, _, _, _, _, rfl, rfl, h3, at_nV e2, ?_⟩
        refine ⟨_, rfl, _, rfl, _, _, _, _, rfl, rfl, g1, g2, _, rfl, _, _, _, _, rfl, rfl, g3, at_nV e4, ?_⟩
        refine ⟨_, rfl, _, _, rfl, rfl, ⟨by decide, by decide⟩, ?_⟩
        refine ⟨m / 2, by omega, rfl, jn J f p, jn J p p, ?_, M.lt _ _ hf hp, M.lt _ _ hp hp, ?_⟩
        · show [_, _, some (V.int ((m : Int) / 2)), _, _] = _
          rw [half]
        · have := M.turn (t := m) hf hp
          rw [if_pos q] at this
          rw [this, e]
      · rw [decide_eq_false q]
        refine iteF ?_
        refine ⟨_, rfl, _, rfl, _, _, _, _, rfl, rfl, g1, g2, _, rfl, _, _, _, _, rfl, rfl, g3, at_nV e4, ?_⟩
        refine ⟨_, rfl, _, _, rfl, rfl, ⟨by decide, by decide⟩, ?_⟩
        refine ⟨m / 2, by omega, rfl, f, jn J p p, ?_, hf, M.lt _ _ hp hp, ?_⟩
        · show [_, _, some (V.int ((m : Int) / 2)), _, _] = _
          rw [half]
        · have := M.turn (t := m) hf hp
          rw [if_neg q] at this
          rw [this, e]
    · rw [decide_eq_false hm]
      refine iteF ⟨_, rfl, ?_⟩
      have m0 : m = 0 := by omega
      subst m0
      have : f = ml J t v := by
        rw [← e]
        exact (M.idr hf).symm
      rw [this]
      exact k
/-! bits_of, of a list or a tuple -/
def sp_bits_of (K : PySem.W.Frag) : Sp := fun vs H Q _ => ∃ (a : Addr) (ns : List Nat), vs = [.ref a] ∧ (NL K H a ns ∨ NT K H a ns) ∧ (∀ x ∈ ns, x ≤ 1000) ∧ ns.length ≤ 1000 ∧ ∀ H', Same H H' → Q (nV (bt ns)) H'
theorem sum_pow : ∀ ns : List Nat, (ns.map fun x => (2 : Int) ^ x).sum = ((bt ns : Nat) : Int)
  | [] => rfl
  | x :: ns => by
    show ((2 : Int) ^ x :: ns.map fun x => (2 : Int) ^ x).sum = (((2 ^ x :: ns.map fun x => 2 ^ x).sum : Nat) : Int)
    rw [List.sum_cons, List.sum_cons, sum_pow ns]
    show _ = ((2 ^ x + bt ns : Nat) : Int)
    simp
theorem sc_bits_of : FnScope ["stands", "stand"] ["stands"] (defScope s_bits_of) := ⟨rfl, rfl, rfl, by decide +kernel, rfl, by decide +kernel, by decide +kernel⟩
theorem ok_bits_of (T : Txt K mg) : Pr P w K mg base 1 "bits_of" ["stands"] (sp_bits_of K) := by
  refine T.d_bits_of.pr sc_bits_of (fun vs H Q E h => ?_) (fun _ _ _ _ _ _ us hl => match us, hl with | [_], _ => rfl) (fun f cdv A outer s H vs Q E hr h => ?_)
  · obtain ⟨a, ns, rfl, _⟩ := h
    rfl
  · obtain ⟨a, ns, rfl, hs, hb, hl, k⟩ := h
    have turn : ∀ (D : Addr), H D = none → ∀ (i : Nat) (x : V) (acc : List V) (H1 : Hp), (ns.map nV)[i]? = some x → Same H H1 → H1 D = some (.lst acc) → acc.length ≤ i → acc = (ns.take i).map (fun x => V.int ((2 : Int) ^ x)) →
        ∃ k : Nat, V.int 1 = V.int 1 ∧ x = .int (k : Int) ∧ k ≤ 134217727 ∧ ∃ acc', H1 D = some (.lst acc') ∧ acc'.length < sizeLine ∧ LcP H D (fun i acc _ => acc = (ns.take i).map (fun x => V.int ((2 : Int) ^ x))) (i + 1) (upd H1 D (.lst (acc' ++ [.int (2 ^ k)]))) := by
      intro D hD i x acc H1 hx s1 hd hle e
      obtain ⟨k, hk, rfl⟩ := nV_at hx
      have hi := (List.getElem?_eq_some_iff.mp hk).1
      refine ⟨k, rfl, rfl, Nat.le_trans (hb k (List.mem_of_getElem? hk)) (by decide), LcP.put hD s1 hd hle (Nat.lt_of_lt_of_le (Nat.lt_of_lt_of_le hi hl) (by decide)) (Same.refl _) ?_⟩
      rw [e]
      exact take_succ_map hk
    have fin : ∀ (D : Addr) (H1 : Hp), LcP H D (fun i acc _ => acc = (ns.take i).map (fun x => V.int ((2 : Int) ^ x))) (ns.map nV).length H1 → rSum K [.ref D] H1 Q := by
      rintro D H1 ⟨acc, s1, hd, _, e⟩
      rw [List.length_map, List.take_length] at e
      refine ⟨D, ns.map fun x => (2 : Int) ^ x, rfl, ?_, ?_⟩
      · rw [e] at hd
        rw [List.map_map]
        exact SqL.of hd
      · exact qi (k H1 s1) (sum_pow ns).symm
    rcases hs with hs | hs
    · refine ⟨_, (pss_one (ps_ret (pe_callB (cr_sum rfl) rfl T.b_sum (by decide +kernel) (pa_cons (pe_lc (own := [("stand", 1)]) (g := gName 1) (tt := tYes) rfl sc_bits_of.nd (pi_list (pv 0)) (blkOk_by (N := ["stands", "stand"]) (sc := defScope s_bits_of) (by decide +kernel)) (fun _ _ _ _ _ => (pg_n 1 sc_bits_of.nd)) (fun _ _ _ _ _ => pts_nil) (fun _ _ _ _ _ => (pe_op op_oneShl pe_int (pv 1)))) pa_nil)))), ?_⟩
      simp only [st_c, st_n, st_0]
      refine ⟨_, rfl, a, rfl, ⟨_, hs⟩, fun D hD => ?_⟩
      refine lc_it walk_list (LcP H D (fun i acc _ => acc = (ns.take i).map (fun x => V.int ((2 : Int) ^ x)))) (LcP.zero hD rfl) (fun i H1 _ ⟨_, s1, _⟩ => s1.seq hs) ?_ (fin D)
      rintro i x H1 _ hi ⟨acc, s1, hd, hle, e⟩ ⟨rfl, hx⟩
      refine ⟨rfl, tyes ?_⟩
      exact ⟨_, rfl, turn D hD i x acc _ hx s1 hd hle e⟩
    · refine ⟨_, (pss_one (ps_ret (pe_callB (cr_sum rfl) rfl T.b_sum (by decide +kernel) (pa_cons (pe_lc (own := [("stand", 1)]) (g := gName 1) (tt := tYes) rfl sc_bits_of.nd (pi_tup (pv 0)) (blkOk_by (N := ["stands", "stand"]) (sc := defScope s_bits_of) (by decide +kernel)) (fun _ _ _ _ _ => (pg_n 1 sc_bits_of.nd)) (fun _ _ _ _ _ => pts_nil) (fun _ _ _ _ _ => (pe_op op_oneShl pe_int (pv 1)))) pa_nil)))), ?_⟩
      simp only [st_c, st_n, st_0]
      refine ⟨_, rfl, a, rfl, ⟨_, hs⟩, fun D hD => ?_⟩
      refine lc_it walk_tup (LcP H D (fun i acc _ => acc = (ns.take i).map (fun x => V.int ((2 : Int) ^ x)))) (LcP.zero hD rfl) (fun i H1 _ ⟨_, s1, _⟩ => sameT s1 hs) ?_ (fin D)
      rintro i x H1 _ hi ⟨acc, s1, hd, hle, e⟩ ⟨rfl, hx⟩
      refine ⟨rfl, tyes ?_⟩
      exact ⟨_, rfl, turn D hD i x acc _ hx s1 hd hle e⟩
/-! stands_of -/
def sp_stands_of (K : PySem.W.Frag) : Sp := fun vs H Q _ => ∃ (xs : List Nat), vs = [nV (bt xs)] ∧ Asc xs ∧ (∀ x ∈ xs, x < 1000) ∧ ∀ (H' : Hp) (p : Addr), Same H H' → H' p = some (.tup (xs.map nV)) → Q (.ref p) H'
theorem ones_snoc (b n : Nat) : onesOf b (n + 1) = if b.testBit n = true then onesOf b n ++ [n] else onesOf b n := by
  unfold onesOf
  rw [List.range_succ, List.filter_append]
  by_cases h : b.testBit n = true
  · rw [if_pos h]
    simp [h]
  · rw [if_neg h]
    simp [h]
theorem sc_stands_of : FnScope ["bits", "found", "stand"] ["bits"] (defScope s_stands_of) := ⟨rfl, rfl, rfl, by decide +kernel, rfl, by decide +kernel, by decide +kernel⟩
theorem ok_stands_of (T : Txt K mg) : Pr P w K mg base 1 "stands_of" ["bits"] (sp_stands_of K) := by
  refine T.d_stands_of.pr sc_stands_of (fun vs H Q E h => ?_) (fun _ _ _ _ _ _ us hl => match us, hl with | [_], _ => rfl) (fun f cdv A outer s H vs Q E hr h => ?_)
  · obtain ⟨xs, rfl, _⟩ := h
    rfl
  · obtain ⟨xs, rfl, ha, hb, k⟩ := h
    refine ⟨_, (pss_cons (ps_s 1 sc_stands_of.nd (pe_lst pa_nil))
    (pss_cons (ps_s 2 sc_stands_of.nd pe_int)
    (pss_cons (ps_while PassesOwn.never (pt_cmpR op_gt (pe_op op_shr (pv 0) (pv 2)) pe_int (nomark _))
      (pss_cons (ps_if (pt_cmpR op_eq (pe_op op_odd (pe_op op_shr (pv 0) (pv 2)) pe_int) pe_int (nomark _))
        (pss_one (ps_expr (pe_bm PySem.F.plainAttrs_list PySem.F.slot_list_append PySem.F.type_list_append mt_append (pv 1) (pa_cons (pv 2) pa_nil))))
        pss_nil)
      (pss_one (ps_aug (i := 2) sc_stands_of.nd rfl (by first | exact Or.inl rfl | exact Or.inr rfl) pe_int ip_add))))
    (pss_one (ps_ret (pe_callTy call_tuple_of rfl T.b_tuple (by decide +kernel) (pa_cons (pv 1) pa_nil))))))), ?_⟩
    simp only [st_c, st_n, st_0]
    refine ⟨Nat.zero_le _, fun l hl => ⟨fun m σ H' => ∃ j : Nat, m = 1000 - j ∧ j ≤ 1000 ∧ σ = [some (nV (bt xs)), some (.ref l), some (nV j)] ∧ Same H H' ∧ H' l = some (.lst ((onesOf (bt xs) j).map nV)), ⟨1000, 0, rfl, by decide, rfl, same_upd hl, upd_same⟩, ?_⟩⟩
    rintro m σ H' ⟨j, rfl, hj, rfl, s1, hL⟩
    have sh : ((bt xs : Nat) : Int) / 2 ^ ((j : Int).toNat) = ((bt xs / 2 ^ j : Nat) : Int) := by
      rw [Int.toNat_natCast]
      simp
    refine ⟨_, rfl, _, rfl, _, _, rfl, rfl, Int.natCast_nonneg _, _, _, rfl, rfl, _, rfl, ?_⟩
    rw [sh]
    by_cases hp : (0 : Int) < ((bt xs / 2 ^ j : Nat) : Int)
    · rw [decide_eq_true hp]
      have lt := bt_lt xs ha hb
      have hj2 : j < 1000 := by
        rcases Nat.lt_or_ge j 1000 with q | q
        · exact q
        · have : 2 ^ 1000 ≤ 2 ^ j := Nat.pow_le_pow_right (by decide) q
          have z : bt xs / 2 ^ j = 0 := Nat.div_eq_of_lt (by omega)
          rw [z] at hp
          exact absurd hp (by decide)
      refine iteT ⟨fun σ' H2 => ∃ m', m' < 1000 - j ∧ ∃ j : Nat, m' = 1000 - j ∧ j ≤ 1000 ∧ σ' = [some (nV (bt xs)), some (.ref l), some (nV j)] ∧ Same H H2 ∧ H2 l = some (.lst ((onesOf (bt xs) j).map nV)), fun σ' H2 ⟨m', q, r⟩ => ⟨m', q, r⟩, ?_⟩
      refine ⟨_, rfl, _, rfl, _, _, rfl, rfl, Int.natCast_nonneg _, bt xs / 2 ^ j, congrArg V.int sh, rfl, rfl, _, rfl, ?_⟩
      have eb : decide (V.int (((bt xs / 2 ^ j) % 2 : Nat) : Int) = V.int 1) = (bt xs).testBit j := by
        rw [Nat.testBit_eq_decide_div_mod_eq]
        by_cases q : bt xs / 2 ^ j % 2 = 1
        · rw [decide_eq_true q]
          exact decide_eq_true (by rw [q]; rfl)
        · rw [decide_eq_false q]
          exact decide_eq_false fun z => q (by injection z with z; omega)
      rw [eb]
      have e1 := ones_snoc (bt xs) j
      have len : (onesOf (bt xs) j).length ≤ j := by
        have := List.length_filter_le (fun i => (bt xs).testBit i) (List.range j)
        rw [List.length_range] at this
        exact this
      have last : ∀ H2, Same H H2 → H2 l = some (.lst ((onesOf (bt xs) (j + 1)).map nV)) → ∃ m', m' < 1000 - j ∧ ∃ j2 : Nat, m' = 1000 - j2 ∧ j2 ≤ 1000 ∧ [some (nV (bt xs)), some (.ref l), some (V.int ((j : Int) + 1))] = [some (nV (bt xs)), some (.ref l), some (nV j2)] ∧ Same H H2 ∧ H2 l = some (.lst ((onesOf (bt xs) j2).map nV)) :=
        fun H2 a b => ⟨1000 - (j + 1), by omega, j + 1, rfl, by omega, rfl, a, b⟩
      cases q : (bt xs).testBit j with
      | true =>
        rw [q, if_pos rfl] at e1
        refine iteT ⟨_, rfl, .inl ⟨rfl, _, SqL.of hL⟩, _, rfl, l, _, _, rfl, rfl, hL, by rw [List.length_map]; exact Nat.lt_of_le_of_lt len (Nat.lt_trans hj2 (by decide)), ?_⟩
        refine ⟨_, rfl, _, _, rfl, rfl, last _ (same_put hl s1) ?_⟩
        rw [upd_same, e1, List.map_append]
        rfl
      | false =>
        rw [q] at e1
        exact iteF ⟨_, rfl, _, _, rfl, rfl, last _ s1 (by rw [hL, e1]; rfl)⟩
    · rw [decide_eq_false hp]
      have z : bt xs / 2 ^ j = 0 := (Nat.eq_zero_or_pos (bt xs / 2 ^ j)).elim id fun q => absurd (Int.natCast_pos.mpr q) hp
      have e : onesOf (bt xs) j = xs := ones_bt ha fun x hx => by
        have b1 : (bt xs).testBit x = true := by rw [bt_bit xs ha]; exact decide_eq_true hx
        rcases Nat.lt_or_ge x j with q | q
        · exact q
        · have lt : bt xs < 2 ^ j := by
            rcases Nat.lt_or_ge (bt xs) (2 ^ j) with c | c
            · exact c
            · have := Nat.div_pos c (Nat.two_pow_pos j)
              omega
          have le : 2 ^ j ≤ 2 ^ x := Nat.pow_le_pow_right (by decide) q
          rw [Nat.testBit_lt_two_pow (by omega)] at b1
          cases b1
      refine iteF ⟨_, rfl, l, _, rfl, .inl ⟨SqL.of hL, fun p hp => ?_⟩⟩
      exact k _ p (same_put (s1.free hp) s1) (by rw [upd_same, e])
/-! looks_of -/
def looksN (J : List (List Nat)) (B : List Nat) : List Nat := J.map fun r => bt ((List.range r.length).filter fun i => B.contains (r.getD i 0))
def sp_looks_of (K : PySem.W.Frag) : Sp := fun vs H Q _ => ∃ (a b : Addr) (J : List (List Nat)) (B : List Nat), vs = [.ref a, .ref b] ∧ TblT K H a J ∧ NT K H b B ∧ J.length ≤ 1000 ∧ (∀ r ∈ J, r.length ≤ 1000) ∧ B.length ≤ 1000 ∧
  ∀ (H' : Hp) (p : Addr), Same H H' → NL K H' p (looksN J B) → Q (.ref p) H'
theorem sc_looks_of : FnScope ["joining", "stands", "there", "found", "row", "stand", "other", "later"] ["joining", "stands"] (defScope s_looks_of) := ⟨rfl, rfl, rfl, by decide +kernel, rfl, by decide +kernel, by decide +kernel⟩
theorem ok_looks_of (T : Txt K mg) : Pr P w K mg base 2 "looks_of" ["joining", "stands"] (sp_looks_of K) := by
  have G_bits_of : Pr P w K mg base 1 "bits_of" _ _ := ok_bits_of T
  refine T.d_looks_of.pr sc_looks_of (fun vs H Q E h => ?_) (fun _ _ _ _ _ _ us hl => match us, hl with | [_, _], _ => rfl) (fun f cdv A outer s H vs Q E hr h => ?_)
  · obtain ⟨a, b, J, B, rfl, _⟩ := h
    rfl
  · obtain ⟨a, b, J, B, rfl, hJ, hB, lJ, lr, lB, k⟩ := h
    have hu := hu_of hr
    refine ⟨_, (pss_cons (ps_s 2 sc_looks_of.nd (pe_dc (own := [("stand", 5)]) (g := gName 5) (tt := tYes) rfl sc_looks_of.nd (pi_tup (pv 1)) (blkOk_by (N := ["joining", "stands", "there", "found", "row", "stand", "other", "later"]) (sc := defScope s_looks_of) (by decide +kernel)) (fun _ _ _ _ _ => (pg_n 5 sc_looks_of.nd)) (fun _ _ _ _ _ => pts_nil) (fun _ _ _ _ _ => (pv 5)) (fun _ _ _ _ _ => pe_bl)))
    (pss_cons (ps_s 3 sc_looks_of.nd (pe_lst pa_nil))
    (pss_cons (ps_for PassesOwn.never rfl (pi_tup (pv 0)) (pg_n 4 sc_looks_of.nd)
      (pss_one (ps_expr (pe_bm PySem.F.plainAttrs_list PySem.F.slot_list_append PySem.F.type_list_append mt_append (pv 3) (pa_cons (pe_callP G_bits_of hr (by decide) (pa_cons (pe_lc (own := [("other", 6), ("later", 7)]) (g := gTup K 2 (gCons (gName 6) (gCons (gName 7) gNil))) rfl sc_looks_of.nd (pi_enumT (by rfl) T.b_enumerate (pa_cons (pv 4) pa_nil)) (blkOk_by (N := ["joining", "stands", "there", "found", "row", "stand", "other", "later"]) (sc := defScope s_looks_of) (by decide +kernel)) (fun _ _ _ _ _ => (pg_tup rfl (pgs_cons (pg_n 6 sc_looks_of.nd) (pgs_cons (pg_n 7 sc_looks_of.nd) pgs_nil)))) (fun _ _ _ _ _ => (pts_one (pt_cmp (pc_din hu (pv 7) (pv 2))))) (fun _ _ _ _ _ => (pv 6))) pa_nil)) pa_nil)))))
    (pss_one (ps_ret (pv 3)))))), ?_⟩
    simp only [st_c, st_n, st_0]
    -- there
    refine ⟨_, rfl, b, rfl, ⟨_, hB⟩, fun D hD => ?_⟩
    refine dc_tup (K := K) (a := b) (xs := B.map nV) (fun i H' => ∃ ks : List Nat, Same H H' ∧ H' D = some (.dK (kd ks)) ∧ ks.length ≤ i ∧ ∀ x, x ∈ ks ↔ x ∈ B.take i) ⟨[], same_upd hD, upd_same, Nat.le_refl _, fun x => by simp⟩ (fun i H' _ ⟨_, s1, _⟩ => sameT s1 hB) ?_ ?_
    · rintro i x H' hx ⟨ks, s1, hd, hl, hk⟩
      obtain ⟨n, hn, rfl⟩ := nV_at hx
      have hi := (List.getElem?_eq_some_iff.mp hn).1
      refine ⟨rfl, tyes ?_⟩
      refine ⟨_, rfl, kd ks, kn n, rfl, hd, ?_, insN ks n, same_put hD s1, ?_, Nat.le_trans (insN_len ks n) (Nat.succ_le_succ hl), fun y => ?_⟩
      · rw [kd_len]
        exact Nat.lt_of_le_of_lt hl (Nat.lt_of_lt_of_le (Nat.lt_of_lt_of_le hi lB) (by decide))
      · rw [upd_same, kd_put]
      · rw [mem_insN, hk y, List.take_add_one, hn]
        simp
    · rintro H1 ⟨ks, s1, hd, _, hk⟩
      have hk : ∀ x, x ∈ ks ↔ x ∈ B := fun x => by
        rw [hk x, List.length_map, List.take_length]
      -- found = []
      refine ⟨Nat.zero_le _, fun l hl => ?_⟩
      have hl0 : H l = none := s1.free hl
      obtain ⟨bs, hbs, hrows⟩ := hJ
      refine ⟨_, rfl, a, rfl, ⟨_, sameT ((s1.trans (same_upd hl))) hbs⟩, ?_⟩
      refine for_it walk_tup (fun i σ H' => ∃ v1 v2 v3 v4, σ = [some (.ref a), some (.ref b), some (.ref D), some (.ref l), v1, v2, v3, v4] ∧ Same H1 H' ∧ H' l = some (.lst (((looksN J B).take i).map nV))) ⟨_, _, _, _, rfl, same_upd hl, upd_same⟩ (fun i σ H' _ ⟨_, _, _, _, _, q, _⟩ => sameT (s1.trans q) hbs) ?_ ?_
      · rintro i x σ _ H' hi ⟨v1, v2, v3, v4, rfl, s2, hL⟩ ⟨rfl, hx⟩
        obtain ⟨rb, hrb, rfl⟩ := ref_at hx
        obtain ⟨r, hr1, hr2⟩ : ∃ r, J[i]? = some r ∧ NT K H rb r := pairedAt2 hrows hrb
        have lr1 := lr r (List.mem_of_getElem? hr1)
        have sH : Same H H' := s1.trans s2
        have hiJ := (List.getElem?_eq_some_iff.mp hr1).1
        -- found.append(bits_of([..]))
        refine ⟨_, rfl, .inl ⟨rfl, _, SqL.of hL⟩, _, rfl, rb, _, rfl, sameT sH hr2, fun D2 hD2 => ?_⟩
        refine lc_it walk_enumT (LcP H' D2 (fun i acc _ => acc = (((List.range r.length).take i).filter fun i => B.contains (r.getD i 0)).map nV)) (LcP.zero hD2 rfl) (fun i H2 _ ⟨_, q, _⟩ => sameT (sH.trans q) hr2) ?_ ?_
        · rintro j x H2 H3 hj ⟨acc, s3, hd2, hla, e⟩ ⟨Tp, y, z, rfl, hTp, rfl, hy, hz⟩
          cases hy
          obtain ⟨n, hn, rfl⟩ := nV_at hz
          have hjr := (List.getElem?_eq_some_iff.mp hn).1
          have s4 : Same H2 (upd H2 Tp (.tup [.int (j : Nat), nV n])) := same_upd hTp
          have er : r.getD j 0 = n := by rw [List.getD_eq_getElem?_getD, hn, Option.getD_some]
          refine ⟨Tp, _, rfl, SqT.of upd_same, rfl, _, _, rfl, _, _, rfl, rfl, rfl, ?_⟩
          refine ⟨_, rfl, _, rfl, D, _, rfl, DGet.k (k := kn n) ((s2.trans (s3.trans s4)) _ _ hd), _, rfl, ?_⟩
          rw [kd_some]
          have step : ∀ c : Bool, c = decide (n ∈ ks) → (((List.range r.length).take (j + 1)).filter fun i => B.contains (r.getD i 0)).map nV = if c = true then acc ++ [nV j] else acc := by
            intro c hc
            rw [List.take_add_one, List.getElem?_range hjr, Option.toList_some, List.filter_append, List.map_append, ← e]
            have e2 : B.contains (r.getD j 0) = c := by
              rw [hc, er]
              by_cases q : n ∈ B
              · rw [decide_eq_true ((hk n).mpr q)]
                simpa using q
              · rw [decide_eq_false fun z => q ((hk n).mp z)]
                simpa using q
            rw [List.filter_cons, e2]
            cases c <;> simp
          cases q : decide (n ∈ ks) with
          | true =>
            refine iteT ⟨_, rfl, LcP.put hD2 s3 hd2 hla (Nat.lt_of_lt_of_le (Nat.lt_of_lt_of_le hjr lr1) (by decide)) s4 ?_⟩
            rw [step true q.symm, if_pos rfl]
          | false =>
            refine iteF (LcP.skip s3 hd2 hla s4 ?_)
            rw [step false q.symm]
            rfl
        · rintro H2 ⟨acc, s3, hd2, _, e⟩
          have e : acc = ((List.range r.length).filter fun i => B.contains (r.getD i 0)).map nV := by
            have z : (r.map nV).length = r.length := List.length_map ..
            rw [z] at e
            rw [e, List.take_of_length_le (by simp)]
          rw [e] at hd2
          refine ⟨D2, _, rfl, .inl (SqL.of hd2), fun x hx => ?_, ?_, fun H3 s4 => ?_⟩
          · have := List.mem_range.mp (List.mem_filter.mp hx).1
            omega
          · refine Nat.le_trans (List.length_filter_le _ _) ?_
            rw [List.length_range]
            exact lr1
          · have hL3 := s4 _ _ (s3 _ _ hL)
            refine ⟨l, _, _, rfl, rfl, hL3, ?_, ?_⟩
            · rw [List.length_map, List.length_take]
              exact Nat.lt_of_le_of_lt (Nat.min_le_left _ _) (Nat.lt_of_lt_of_le hiJ (Nat.le_trans lJ (by decide)))
            · refine ⟨_, _, _, _, rfl, same_put hl (s2.trans (s3.trans s4)), ?_⟩
              rw [upd_same]
              have e5 : (looksN J B)[i]? = some (bt ((List.range r.length).filter fun i => B.contains (r.getD i 0))) := by
                unfold looksN
                rw [List.getElem?_map, hr1]
                rfl
              rw [List.take_add_one, e5, List.map_append]
              rfl
      · rintro σ H' ⟨v1, v2, v3, v4, rfl, s2, hL⟩
        refine ⟨_, rfl, k _ l (s1.trans s2) ?_⟩
        have z : (bs.map V.ref).length = (looksN J B).length := by
          unfold looksN
          rw [List.length_map, List.length_map]
          exact pairedLen hrows
        rw [z, List.take_length] at hL
        exact SqL.of hL
end
end UC
set_option Elab.async false
set_option linter.all false
set_option maxRecDepth 100000
set_option maxHeartbeats 4000000
/-! Lots: leasts_of, is_sum, needed_makers, are_makers. -/
namespace UC
open PySem PySem.Spec PyProof.Rows L2
def oV : Option Nat → V
  | none => .non
  | some n => nV n
theorem oV_at {ls : List (Option Nat)} {i : Nat} {o : Option Nat} (h : ls[i]? = some o) : atI (ls.map oV) (i : Int) = some (oV o) := atI_nat (by rw [List.getElem?_map, h]; rfl)
theorem oV_non {o : Option Nat} : decide (oV o = V.non) = o.isNone := by
  cases o with
  | none => exact decide_eq_true rfl
  | some n => exact decide_eq_false fun z => nomatch z
theorem oV_set (ls : List (Option Nat)) (j n : Nat) : (ls.map oV).set j (nV n) = (ls.set j (some n)).map oV := by
  rw [List.map_set]
  rfl
theorem flat_non : ∀ n : Nat, (List.replicate n [V.non]).flatten = (List.replicate n none).map oV
  | 0 => rfl
  | n + 1 => by
    rw [List.replicate_succ, List.flatten_cons, flat_non n, List.replicate_succ]
    rfl
section
variable {P : Program} {w : World} {K : PySem.W.Frag} {mg : Str → Option Value} {base : Heap}
/-! leasts_of -/
def sp_leasts_of (K : PySem.W.Frag) : Sp := fun vs H Q _ => ∃ (a : Addr) (ms : List Nat), vs = [.ref a] ∧ TkLT H a (ms.map nV) ∧ ms ≠ [] ∧ (∀ m ∈ ms, 1 ≤ m ∧ m ≤ 1000) ∧
  ∀ (H' : Hp) (p : Addr) (ls : List (Option Nat)), H p = none → Same H H' → H' p = some (.lst (ls.map oV)) → ls ≠ [] → Q (.ref p) H'
/-- between two turns of the loops -/
def LsAt (H : Hp) (a l : Addr) (ms : List Nat) (F g : Nat) (H' : Hp) (ls : List (Option Nat)) : Prop := Same H H' ∧ H' l = some (.lst (ls.map oV)) ∧ GoodL F 1000 ls ∧ wtL (F * 1000) ls ≤ g
theorem sc_leasts_of : FnScope ["makers", "first", "found", "grown", "rest", "maker", "later", "known"] ["makers"] (defScope s_leasts_of) := ⟨rfl, rfl, rfl, by decide +kernel, rfl, by decide +kernel, by decide +kernel⟩
theorem ok_leasts_of (T : Txt K mg) : Pr P w K mg base 1 "leasts_of" ["makers"] (sp_leasts_of K) := by
  refine T.d_leasts_of.pr sc_leasts_of (fun vs H Q E h => ?_) (fun _ _ _ _ _ _ us hl => match us, hl with | [_], _ => rfl) (fun f cdv A outer s H vs Q E hr h => ?_)
  · obtain ⟨a, ms, rfl, _⟩ := h
    rfl
  · obtain ⟨a, ms, rfl, hs, hne, hb, k⟩ := h
    obtain ⟨F, r, rfl⟩ := List.exists_cons_of_ne_nil hne
    have hF := hb F List.mem_cons_self
    refine ⟨_, (pss_cons (ps_s 1 sc_leasts_of.nd (pe_ix ix_lt (pv 0) pe_int (fun _ _ => rfl)))
    (pss_cons (ps_s 2 sc_leasts_of.nd (pe_op op_rep (pe_lst (pa_cons pe_non pa_nil)) (pv 1)))
    (pss_cons (ps_asg pe_int (pg_sub (pv 2) pe_int set_list))
    (pss_cons (ps_s 3 sc_leasts_of.nd pe_bl)
    (pss_cons (ps_while PassesOwn.never (pt_val (pv 3))
      (pss_cons (ps_s 3 sc_leasts_of.nd pe_bl)
      (pss_one (ps_for PassesOwn.never rfl (pi_range1 rfl T.b_range (pa_cons (pv 1) pa_nil)) (pg_n 4 sc_leasts_of.nd)
        (pss_one (ps_if (pt_cmpR op_notN (pe_ix ix_list (pv 2) (pv 4) (fun _ _ => rfl)) pe_non (nomark _))
          (pss_one (ps_for PassesOwn.never rfl (pi_lt (pv 0)) (pg_n 5 sc_leasts_of.nd)
            (pss_cons (ps_s 6 sc_leasts_of.nd (pe_op op_add (pe_ix ix_list (pv 2) (pv 4) (fun _ _ => rfl)) (pv 5)))
            (pss_cons (ps_s 7 sc_leasts_of.nd (pe_ix ix_list (pv 2) (pe_op op_mod (pv 6) (pv 1)) (fun _ _ => rfl)))
            (pss_one (ps_if (PW.pt (pw_or (pt_cmpR op_isN (pv 7) pe_non (nomark _)) (pw_or1 (pt_cmpR op_lt (pv 6) (pv 7) (nomark _)))))
              (pss_cons (ps_asg (pv 6) (pg_sub (pv 2) (pe_op op_mod (pv 6) (pv 1)) set_list))
              (pss_one (ps_s 3 sc_leasts_of.nd pe_bl)))
              pss_nil))))))
          pss_nil))))))
    (pss_one (ps_ret (pv 2)))))))), ?_⟩
    simp only [st_c, st_n, st_0]
    refine ⟨_, rfl, _, _, _, _, rfl, rfl, hs, at_nV (i := 0) (k := F) rfl, ?_⟩
    refine ⟨Nat.le_of_ble_eq_true rfl, fun l0 hl0 => ⟨_, rfl, l0, _, _, rfl, rfl, upd_same, by omega, by omega, ?_, fun l hl => ?_⟩⟩
    · rw [Int.toNat_natCast, List.length_singleton, Nat.one_mul]
      exact Nat.le_trans hF.2 (by decide)
    have hl1 : H l = none := (same_upd hl0).free hl
    have s0 : Same H (upd H l0 (.lst [.non])) := same_upd hl0
    have flat : (List.replicate (F : Int).toNat [V.non]).flatten = (List.replicate F none).map oV := by
      rw [Int.toNat_natCast]
      exact flat_non F
    refine ⟨_, rfl, l, _, _, 0, rfl, rfl, upd_same, ?_, ?_⟩
    · rw [flat, List.length_map, List.length_replicate]
      unfold ixN
      rw [if_pos (by decide), if_pos (by omega)]
      rfl
    have e0 : ((List.replicate (F : Int).toNat [V.non]).flatten).set 0 (V.int 0) = ((List.replicate F none).set 0 (some 0)).map oV := by
      rw [flat]
      exact oV_set _ 0 0
    have H0 : LsAt H a l (F :: r) F (wtL (F * 1000) ((List.replicate F none).set 0 (some 0))) (upd (upd (upd H l0 (.lst [.non])) l (.lst (List.replicate (F : Int).toNat [V.non]).flatten)) l (.lst (((List.replicate (F : Int).toNat [V.non]).flatten).set 0 (V.int 0)))) ((List.replicate F none).set 0 (some 0)) := by
      refine ⟨same_put hl1 (s0.trans (same_upd hl)), by rw [upd_same, e0], goodL_start (by omega), Nat.le_refl _⟩
    generalize hst : upd (upd (upd H l0 (.lst [.non])) l (.lst (List.replicate (F : Int).toNat [V.non]).flatten)) l (.lst (((List.replicate (F : Int).toNat [V.non]).flatten).set 0 (V.int 0))) = Hs at H0 ⊢
    -- while grown
    refine ⟨fun m σ H' => ∃ (g : Bool) (v4 v5 v6 v7 : Option V) (ls : List (Option Nat)), σ = [some (.ref a), some (nV F), some (.ref l), some (.bl g), v4, v5, v6, v7] ∧ ∃ b, LsAt H a l (F :: r) F b H' ls ∧ m = (if g = true then b + 1 else 0), ⟨_, true, _, _, _, _, _, rfl, _, H0, rfl⟩, ?_⟩
    rintro m σ H' ⟨g, v4, v5, v6, v7, ls, rfl, b, hL, rfl⟩
    refine ⟨_, rfl, g, rfl, ?_⟩
    cases g with
    | false =>
      obtain ⟨s1, h1, h2, _⟩ := hL
      refine iteF ⟨_, rfl, k H' l ls hl1 s1 h1 ?_⟩
      intro z
      have := h2.len
      rw [z] at this
      simp at this
      omega
    | true =>
      refine iteT ⟨fun σ' H2 => ∃ m', m' < b + 1 ∧ ∃ (g : Bool) (v4 v5 v6 v7 : Option V) (ls : List (Option Nat)), σ' = [some (.ref a), some (nV F), some (.ref l), some (.bl g), v4, v5, v6, v7] ∧ ∃ b, LsAt H a l (F :: r) F b H2 ls ∧ m' = (if g = true then b + 1 else 0), fun σ' H2 ⟨m', q, z⟩ => ⟨m', by rw [if_pos rfl]; exact q, z⟩, ?_⟩
      -- for rest in range(first)
      refine ⟨_, rfl, _, rfl, by omega, by omega, ?_⟩
      refine for_range (lo := 0) (n := F) (fun i σ H2 => ∃ (g : Bool) (v4 v5 v6 v7 : Option V) (ls2 : List (Option Nat)) (b2 : Nat), σ = [some (.ref a), some (nV F), some (.ref l), some (.bl g), v4, v5, v6, v7] ∧ LsAt H a l (F :: r) F b2 H2 ls2 ∧ b2 ≤ b ∧ (g = true → b2 < b)) ⟨false, _, _, _, _, ls, b, rfl, hL, Nat.le_refl _, fun z => nomatch z⟩ ?_ ?_
      · rintro i σ H2 hi ⟨g, w4, w5, w6, w7, ls2, b2, rfl, hL2, hb2, hg⟩
        obtain ⟨s2, h1, h2, h3⟩ := hL2
        have hii : i < ls2.length := by rw [h2.len]; exact hi
        have e1 : ls2[i]? = some ls2[i] := List.getElem?_eq_getElem hii
        have ei : (0 : Int) + (i : Int) = (i : Int) := Int.zero_add _
        refine ⟨_, rfl, _, rfl, l, _, _, oV ls2[i], rfl, rfl, SqL.of h1, by rw [ei]; exact oV_at e1, rfl, _, rfl, ?_⟩
        rw [oV_non]
        cases eo : ls2[i] with
        | none =>
          refine iteF ?_
          exact ⟨g, _, _, _, _, ls2, b2, rfl, ⟨s2, h1, h2, h3⟩, hb2, hg⟩
        | some v0 =>
          refine iteT ?_
          refine ⟨_, rfl, a, (F :: r).map nV, rfl, hs.same s2, fun J G hG wk => ?_⟩
          refine for_it wk (fun j σ H3 => ∃ (g : Bool) (v5 v6 v7 : Option V) (ls3 : List (Option Nat)) (b3 : Nat), σ = [some (.ref a), some (nV F), some (.ref l), some (.bl g), some (nV i), v5, v6, v7] ∧ (∀ c o, c ≠ l → H2 c = some o → H3 c = some o) ∧ LsAt H a l (F :: r) F b3 H3 ls3 ∧ b3 ≤ b ∧ (g = true → b3 < b) ∧ ∃ v, ls3[i]? = some (some v))
            ⟨g, _, _, _, ls2, b2, by rw [ei]; rfl, fun c o _ q => q, ⟨s2, h1, h2, h3⟩, hb2, hg, v0, by rw [e1, eo]⟩ (fun j σ H3 _ ⟨_, _, _, _, _, _, _, kp, _⟩ => hG H3 ?_) ?_ ?_
          · intro o q
            obtain ⟨u, hu⟩ := hs.there
            exact kp a o (ne_of_none hu hl1) q
          · rintro j x σ _ H3 hj ⟨g, u5, u6, u7, ls3, b3, rfl, kp, ⟨s3, g1, g2, g3⟩, hb3, hg3, v, hv⟩ ⟨rfl, hx⟩
            obtain ⟨m, hm, rfl⟩ := nV_at hx
            have hm2 := hb m (List.mem_of_getElem? hm)
            have hF0 : 0 < F := by omega
            have jl : (v + m) % F < ls3.length := by rw [g2.len]; exact Nat.mod_lt _ hF0
            have e3 : ls3[(v + m) % F]? = some ls3[(v + m) % F] := List.getElem?_eq_getElem jl
            have em : ((v : Int) + (m : Int)) % (F : Int) = (((v + m) % F : Nat) : Int) := by rw [Int.natCast_emod, Int.natCast_add]
            refine ⟨_, rfl, _, rfl, l, _, _, _, rfl, rfl, SqL.of g1, oV_at hv, _, rfl, _, _, rfl, rfl, ?_⟩
            refine ⟨_, rfl, _, rfl, _, rfl, _, _, rfl, rfl, (by show (0 : Int) < (F : Int); omega), l, _, _, oV ls3[(v + m) % F], rfl, rfl, SqL.of g1, (by rw [em]; exact oV_at e3), ?_⟩
            have keep : ∃ (g' : Bool) (v5 v6 v7 : Option V) (ls4 : List (Option Nat)) (b4 : Nat), [some (.ref a), some (nV F), some (.ref l), some (.bl g), some (nV i), some (nV m), some (.int ((v : Int) + (m : Int))), some (oV ls3[(v + m) % F])] = [some (.ref a), some (nV F), some (.ref l), some (.bl g'), some (nV i), v5, v6, v7] ∧
                (∀ c o, c ≠ l → H2 c = some o → H3 c = some o) ∧ LsAt H a l (F :: r) F b4 H3 ls4 ∧ b4 ≤ b ∧ (g' = true → b4 < b) ∧ ∃ v, ls4[i]? = some (some v) := ⟨g, _, _, _, ls3, b3, rfl, kp, ⟨s3, g1, g2, g3⟩, hb3, hg3, v, hv⟩
            have store : (∀ k, ls3[(v + m) % F] = some k → v + m < k) → ∃ (g' : Bool) (v5 v6 v7 : Option V) (ls4 : List (Option Nat)) (b4 : Nat), [some (.ref a), some (nV F), some (.ref l), some (.bl true), some (nV i), some (nV m), some (.int ((v : Int) + (m : Int))), some (oV ls3[(v + m) % F])] = [some (.ref a), some (nV F), some (.ref l), some (.bl g'), some (nV i), v5, v6, v7] ∧
                (∀ c o, c ≠ l → H2 c = some o → (upd H3 l (.lst ((ls3.map oV).set ((v + m) % F) (.int ((v : Int) + (m : Int)))))) c = some o) ∧ LsAt H a l (F :: r) F b4 (upd H3 l (.lst ((ls3.map oV).set ((v + m) % F) (.int ((v : Int) + (m : Int)))))) ls4 ∧ b4 ≤ b ∧ (g' = true → b4 < b) ∧ ∃ v, ls4[i]? = some (some v) := by
              intro lt
              obtain ⟨p1, p2⟩ := g2.put hv e3 hm2.1 hm2.2 lt
              have es : (ls3.map oV).set ((v + m) % F) (.int ((v : Int) + (m : Int))) = (ls3.set ((v + m) % F) (some (v + m))).map oV := oV_set ls3 _ (v + m)
              refine ⟨true, _, _, _, ls3.set ((v + m) % F) (some (v + m)), wtL (F * 1000) (ls3.set ((v + m) % F) (some (v + m))), rfl, fun c o hc q => ?_, ⟨same_put hl1 s3, by rw [upd_same, es], p1, Nat.le_refl _⟩, by omega, fun _ => by omega, ?_⟩
              · rw [upd_ne hc]
                exact kp c o hc q
              · by_cases q : (v + m) % F = i
                · exact ⟨v + m, by rw [q, List.getElem?_set_self (by rw [← q]; exact jl)]⟩
                · exact ⟨v, by rw [List.getElem?_set_ne q]; exact hv⟩
            have ix : ixN (ls3.map oV).length (((v + m) % F : Nat) : Int) = some ((v + m) % F) := by
              unfold ixN
              rw [if_pos (Int.natCast_nonneg _), if_pos (by rw [List.length_map]; exact Int.ofNat_lt.mpr jl), Int.toNat_natCast]
            refine ⟨_, rfl, rfl, _, rfl, ?_⟩
            rw [oV_non]
            cases eo3 : ls3[(v + m) % F] with
            | none =>
              rw [eo3] at store
              refine iteT (iteT ?_)
              exact ⟨_, rfl, _, rfl, _, rfl, _, rfl, _, _, rfl, rfl, (by show (0 : Int) < (F : Int); omega), l, _, _, (v + m) % F, rfl, rfl, g1, (by rw [em]; exact ix), store fun k z => nomatch z⟩
            | some k0 =>
              rw [eo3] at store keep
              refine iteF ⟨_, rfl, _, rfl, _, _, rfl, rfl, _, rfl, ?_⟩
              by_cases lt : (v : Int) + (m : Int) < (k0 : Int)
              · rw [decide_eq_true lt]
                refine iteT ?_
                exact ⟨_, rfl, _, rfl, _, rfl, _, rfl, _, _, rfl, rfl, (by show (0 : Int) < (F : Int); omega), l, _, _, (v + m) % F, rfl, rfl, g1, (by rw [em]; exact ix), store fun k z => by injection z with z; omega⟩
              · rw [decide_eq_false lt]
                exact iteF keep
          · rintro σ H3 ⟨g, u5, u6, u7, ls3, b3, rfl, kp, hL3, hb3, hg3, v, hv⟩
            exact ⟨g, _, _, _, _, ls3, b3, rfl, hL3, hb3, hg3⟩
      · rintro σ H2 ⟨g, w4, w5, w6, w7, ls2, b2, rfl, hL2, hb2, hg⟩
        refine ⟨if g = true then b2 + 1 else 0, ?_, g, _, _, _, _, ls2, rfl, b2, hL2, rfl⟩
        cases g with
        | true => have := hg rfl; rw [if_pos rfl]; omega
        | false => rw [if_neg Bool.false_ne_true]; omega
/-! is_sum: some flag -/
def sp_is_sum : Sp := fun vs H Q _ => ∃ (a : Addr) (ls : List (Option Nat)) (n : Nat), vs = [.ref a, nV n] ∧ H a = some (.lst (ls.map oV)) ∧ ls ≠ [] ∧ ∀ b, Q (.bl b) H
theorem sc_is_sum : FnScope ["leasts", "number", "least"] ["leasts", "number"] (defScope s_is_sum) := ⟨rfl, rfl, rfl, by decide +kernel, rfl, by decide +kernel, by decide +kernel⟩
theorem ok_is_sum (T : Txt K mg) : Pr P w K mg base 1 "is_sum" ["leasts", "number"] sp_is_sum := by
  refine T.d_is_sum.pr sc_is_sum (fun vs H Q E h => ?_) (fun _ _ _ _ _ _ us hl => match us, hl with | [_, _], _ => rfl) (fun f cdv A outer s H vs Q E hr h => ?_)
  · obtain ⟨a, ls, n, rfl, _⟩ := h
    rfl
  · obtain ⟨a, ls, n, rfl, ha, hne, k⟩ := h
    refine ⟨_, (pss_cons (ps_s 2 sc_is_sum.nd (pe_ix ix_list (pv 0) (pe_op op_mod (pv 1) (pe_callB call_len rfl T.b_len (by decide +kernel) (pa_cons (pv 0) pa_nil))) (fun _ _ => rfl)))
    (pss_one (ps_ret (pe_and (pe_cmpR op_notN (pv 2) pe_non (nomark _)) (pe_one (pe_cmpR op_le (pv 2) (pv 1) (nomark _))))))), ?_⟩
    simp only [st_c, st_n, st_0]
    have lp : 0 < ls.length := List.length_pos_iff.mpr hne
    have jl : n % ls.length < ls.length := Nat.mod_lt _ lp
    have e3 : ls[n % ls.length]? = some ls[n % ls.length] := List.getElem?_eq_getElem jl
    have em : (n : Int) % ((ls.map oV).length : Int) = ((n % ls.length : Nat) : Int) := by rw [List.length_map, Int.natCast_emod]
    refine ⟨_, rfl, _, rfl, _, rfl, _, _, rfl, .inl ⟨_, SqL.of ha, rfl⟩, _, _, rfl, rfl, (by rw [List.length_map]; omega), a, _, _, oV ls[n % ls.length], rfl, rfl, SqL.of ha, (by rw [em]; exact oV_at e3), ?_⟩
    refine ⟨_, rfl, rfl, _, rfl, ?_⟩
    rw [oV_non]
    cases ls[n % ls.length] with
    | none => exact iteF (k _)
    | some v => exact iteT ⟨_, rfl, _, rfl, _, _, rfl, rfl, k _⟩
theorem asc_len {xs : List Nat} {n : Nat} (hb : ∀ x ∈ xs, x < n) (ha : Asc xs) : xs.length ≤ n := by
  rw [← ones_bt ha hb]
  refine Nat.le_trans (List.length_filter_le ..) ?_
  rw [List.length_range]
  exact Nat.le_refl _
/-! needed_makers -/
def sp_needed_makers (K : PySem.W.Frag) : Sp := fun vs H Q _ => ∃ (a : Addr) (ms : List Nat), vs = [.ref a] ∧ H a = some (.tup (ms.map nV)) ∧ ms.length ≤ 1000 ∧ (∀ m ∈ ms, 1 ≤ m ∧ m ≤ 1000) ∧
  ∀ (H' : Hp) (p : Addr) (ns : List Nat), Same H H' → H' p = some (.tup (ns.map nV)) → (∀ n ∈ ns, n ∈ ms) → (ms ≠ [] → ns ≠ []) → H p = none → ns.length ≤ 1001 → Q (.ref p) H'
theorem sc_needed_makers : FnScope ["makers", "found", "leasts", "maker"] ["makers"] (defScope s_needed_makers) := ⟨rfl, rfl, rfl, by decide +kernel, rfl, by decide +kernel, by decide +kernel⟩
theorem ok_needed_makers (T : Txt K mg) : Pr P w K mg base 2 "needed_makers" ["makers"] (sp_needed_makers K) := by
  have G_leasts_of : Pr P w K mg base 1 "leasts_of" _ _ := ok_leasts_of T
  have G_is_sum : Pr P w K mg base 1 "is_sum" _ _ := ok_is_sum T
  refine T.d_needed_makers.pr sc_needed_makers (fun vs H Q E h => ?_) (fun _ _ _ _ _ _ us hl => match us, hl with | [_], _ => rfl) (fun f cdv A outer s H vs Q E hr h => ?_)
  · obtain ⟨a, ms, rfl, _⟩ := h
    rfl
  · obtain ⟨a, ms, rfl, ha, hl, hb, k⟩ := h
    refine ⟨_, (pss_cons (ps_s 1 sc_needed_makers.nd (pe_lst pa_nil))
    (pss_cons (ps_s 2 sc_needed_makers.nd (pe_lst pa_nil))
    (pss_cons (ps_for PassesOwn.never rfl (pi_list (pe_callB (cr_sortedSetN rfl) rfl T.b_sorted (by decide +kernel) (pa_cons (pe_callTy (cr_setLT rfl) rfl T.b_set (by decide +kernel) (pa_cons (pv 0) pa_nil)) pa_nil))) (pg_n 3 sc_needed_makers.nd)
      (pss_one (ps_if (PW.pt (pw_or (pt_cmpR op_eq (pe_callB call_len rfl T.b_len (by decide +kernel) (pa_cons (pv 1) pa_nil)) pe_int (nomark _)) (pw_or1 (pt_not (pt_val (pe_callP G_is_sum hr (by decide) (pa_cons (pv 2) (pa_cons (pv 3) pa_nil))))))))
        (pss_cons (ps_expr (pe_bm PySem.F.plainAttrs_list PySem.F.slot_list_append PySem.F.type_list_append mt_append (pv 1) (pa_cons (pv 3) pa_nil)))
        (pss_one (ps_s 2 sc_needed_makers.nd (pe_callP G_leasts_of hr (by decide) (pa_cons (pv 1) pa_nil)))))
        pss_nil)))
    (pss_one (ps_ret (pe_callTy call_tuple_of rfl T.b_tuple (by decide +kernel) (pa_cons (pv 1) pa_nil))))))), ?_⟩
    simp only [st_c, st_n, st_0]
    refine ⟨Nat.zero_le _, fun l hl0 => ⟨Nat.zero_le _, fun l2 hl2 => ?_⟩⟩
    have s1 : Same H (upd (upd H l (.lst [])) l2 (.lst [])) := (same_upd hl0).trans (same_upd hl2)
    refine ⟨_, rfl, a, ms.map fun (x : Nat) => (x : Int), rfl, .inr (SqT.of (by rw [mapV]; exact s1 _ _ ha)), (by rw [List.length_map]; exact hl), fun p c hp hc => ?_⟩
    refine ⟨p, _, c, rfl, upd_same, Nat.le_trans hc (by rw [List.length_map]; exact hl), fun ns q up mem hq => ?_⟩
    obtain ⟨xs, rfl, hm_asc, hm⟩ := asc_ints up mem
    rw [mapV]
    have s2 := (s1.trans (same_upd hp)).trans (same_upd (o := .lst (xs.map nV)) hq)
    have sl : Same (upd H l (.lst [])) (upd (upd (upd (upd H l (.lst [])) l2 (.lst [])) p (SetO w p (fun j => decide (j ∈ ms.map fun (x : Nat) => (x : Int))) c)) q (.lst (xs.map nV))) := ((same_upd hl2).trans (same_upd hp)).trans (same_upd hq)
    have sl2 : Same (upd (upd H l (.lst [])) l2 (.lst [])) (upd (upd (upd (upd H l (.lst [])) l2 (.lst [])) p (SetO w p (fun j => decide (j ∈ ms.map fun (x : Nat) => (x : Int))) c)) q (.lst (xs.map nV))) := (same_upd hp).trans (same_upd hq)
    refine ⟨q, rfl, ⟨_, SqL.of upd_same⟩, ?_⟩
    have hq0 : H l = none := hl0
    refine for_it (walk_list (xs := xs.map nV)) (fun i σ H' => ∃ (v3 : Option V) (fs : List Nat) (ll : Addr) (ls : List (Option Nat)), σ = [some (.ref a), some (.ref l), some (.ref ll), v3] ∧ Same H H' ∧ H' l = some (.lst (fs.map nV)) ∧ H' q = some (.lst (xs.map nV)) ∧ l ≠ q ∧ ll ≠ l ∧
        H' ll = some (.lst (ls.map oV)) ∧ (fs ≠ [] → ls ≠ []) ∧ (∀ n ∈ fs, n ∈ ms) ∧ fs.length ≤ i ∧ (0 < i → fs ≠ []))
      ⟨_, [], l2, [], rfl, s2, sl _ _ upd_same, upd_same, ?_, ?_, sl2 _ _ upd_same, fun z => absurd rfl z, fun n z => (List.not_mem_nil z).elim, Nat.le_refl _, fun z => absurd z (Nat.lt_irrefl _)⟩ (fun i σ H' _ ⟨_, _, _, _, _, _, _, z, _⟩ => SqL.of z) ?_ ?_
    · exact ne_of_none (((same_upd hl2).trans (same_upd hp)) _ _ upd_same) hq
    · exact (ne_of_none (upd_same) hl2).symm
    · rintro i x σ _ H' hi ⟨v3, fs, ll, ls, rfl, s3, h1, h2, n1, n2, h3, h4, h5, h6, h7⟩ ⟨rfl, hx⟩
      obtain ⟨m, hm2, rfl⟩ := nV_at hx
      have mm : m ∈ ms := (hm m).mp (List.mem_of_getElem? hm2)
      have hi3 : i < xs.length := by simpa using hi
      refine ⟨_, rfl, _, fs.length, rfl, .inl ⟨_, SqL.of h1, by rw [List.length_map]⟩, rfl, _, rfl, ?_⟩
      have hxl : xs.length ≤ 1001 := asc_len (fun x hx => Nat.lt_succ_of_le (hb x ((hm x).mp hx)).2) (hm_asc)
      have hA : Asc xs := hm_asc
      have lenOk : (fs.map nV).length < sizeLine := by
        rw [List.length_map]
        exact Nat.lt_of_le_of_lt (Nat.le_trans h6 (Nat.le_trans (Nat.le_of_lt hi3) hxl)) (by decide)
      have bnd : ∀ x ∈ fs ++ [m], 1 ≤ x ∧ x ≤ 1000 := fun x hx => by
        rcases List.mem_append.mp hx with q | q
        · exact hb x (h5 x q)
        · rw [List.mem_singleton.mp q]; exact hb m mm
      have mem2 : ∀ x ∈ fs ++ [m], x ∈ ms := fun x hx => by
        rcases List.mem_append.mp hx with q | q
        · exact h5 x q
        · rw [List.mem_singleton.mp q]; exact mm
      have after : ∀ H2 (p2 : Addr) (ls2 : List (Option Nat)), (upd H' l (.lst (fs.map nV ++ [nV m]))) p2 = none → Same (upd H' l (.lst (fs.map nV ++ [nV m]))) H2 → H2 p2 = some (.lst (ls2.map oV)) → Same H H2 ∧ H2 l = some (.lst ((fs ++ [m]).map nV)) ∧ H2 q = some (.lst (xs.map nV)) ∧ p2 ≠ l := by
        intro H2 p2 ls2 fr sm hp2
        have z : H2 l = some (.lst ((fs ++ [m]).map nV)) := by
          rw [List.map_append]
          exact sm _ _ upd_same
        refine ⟨(same_put hq0 s3).trans sm, z, sm _ _ (by rw [upd_ne (Ne.symm n1)]; exact h2), fun e => ?_⟩
        rw [e, upd_same] at fr
        cases fr
      by_cases e : fs = []
      · subst e
        refine iteT (iteT ⟨_, rfl, .inl ⟨rfl, _, SqL.of h1⟩, _, rfl, l, _, _, rfl, rfl, h1, lenOk, _, rfl, l, [] ++ [m], rfl, .inl (by rw [upd_same, List.map_append]; rfl), by simp, bnd, fun H2 p2 ls2 fr sm hp2 hne2 => ?_⟩)
        obtain ⟨f1, f2, f3, f4⟩ := after H2 p2 ls2 fr sm hp2
        exact ⟨_, [] ++ [m], p2, ls2, rfl, f1, f2, f3, n1, f4, hp2, fun _ => hne2, mem2, by rw [List.length_append]; exact Nat.succ_le_succ h6, fun _ => by simp⟩
      · have e0 : ¬ (V.int (fs.length : Int) = V.int 0) := fun z => e (List.eq_nil_of_length_eq_zero (by injection z with z; omega))
        rw [decide_eq_false e0]
        refine iteF ⟨_, rfl, _, rfl, ll, ls, m, rfl, h3, h4 e, fun b => ⟨_, rfl, ?_⟩⟩
        cases b with
        | true => exact iteF ⟨_, fs, ll, ls, rfl, s3, h1, h2, n1, n2, h3, h4, h5, Nat.le_succ_of_le h6, fun _ => e⟩
        | false =>
          refine iteT ⟨_, rfl, .inl ⟨rfl, _, SqL.of h1⟩, _, rfl, l, _, _, rfl, rfl, h1, lenOk, _, rfl, l, fs ++ [m], rfl, .inl (by rw [upd_same, List.map_append]; rfl), by simp, bnd, fun H2 p2 ls2 fr sm hp2 hne2 => ?_⟩
          obtain ⟨f1, f2, f3, f4⟩ := after H2 p2 ls2 fr sm hp2
          exact ⟨_, fs ++ [m], p2, ls2, rfl, f1, f2, f3, n1, f4, hp2, fun _ => hne2, mem2, by rw [List.length_append]; exact Nat.succ_le_succ h6, fun _ => by simp⟩
    · rintro σ H' ⟨v3, fs, ll, ls, rfl, s3, h1, h2, n1, n2, h3, h4, h5, h6, h7⟩
      refine ⟨_, rfl, l, fs.map nV, rfl, .inl ⟨SqL.of h1, fun t ht => ?_⟩⟩
      refine k _ t fs (s3.trans (same_upd ht)) upd_same h5 (fun hne => h7 ?_) (s3.free ht) (Nat.le_trans h6 (by rw [List.length_map]; exact asc_len (fun x hx => Nat.lt_succ_of_le (hb x ((hm x).mp hx)).2) hm_asc))
      obtain ⟨m, r, rfl⟩ := List.exists_cons_of_ne_nil hne
      have := (hm m).mpr List.mem_cons_self
      rw [List.length_map]
      exact List.length_pos_of_mem this
end
end UC
set_option Elab.async false
set_option linter.all false
set_option maxRecDepth 100000
set_option maxHeartbeats 4000000
/-! Lots: are_makers, Lot. -/
namespace UC
open PySem PySem.Spec PyProof.Rows L2
/-! comprehensions of one flag -/
abbrev RB (c : Bool) : Nat → List V → Hp → Prop := fun i acc _ => acc = List.replicate i (V.bl c)
theorem putB {H1 H H4 : Hp} {D : Addr} {c : Bool} {i : Nat} {acc : List V} (hD : H1 D = none) (s1 : Same H1 H) (hd : H D = some (.lst acc)) (hl : acc.length ≤ i) (e : acc = List.replicate i (V.bl c)) (hi : i < sizeLine) (s4 : Same H H4) :
    ∃ acc', H4 D = some (.lst acc') ∧ acc'.length < sizeLine ∧ LcP H1 D (RB c) (i + 1) (upd H4 D (.lst (acc' ++ [V.bl c]))) :=
  LcP.put hD s1 hd hl hi s4 (by rw [e]; exact List.replicate_succ'.symm)
theorem finAll {K : PySem.W.Frag} {H H1 : Hp} {D : Addr} {n : Nat} (h : LcP H D (RB true) n H1) : ∃ bs : List Bool, SqL K H1 D (bs.map V.bl) ∧ bs.all id = true ∧ Same H H1 := by
  obtain ⟨acc, s1, hd, _, e⟩ := h
  refine ⟨List.replicate n true, ?_, List.all_eq_true.mpr fun x hx => by rw [(List.mem_replicate.mp hx).2]; rfl, s1⟩
  rw [List.map_replicate, ← e]
  exact SqL.of hd
theorem finAny {K : PySem.W.Frag} {H H1 : Hp} {D : Addr} {n : Nat} (h : LcP H D (RB false) n H1) : ∃ bs : List Bool, SqL K H1 D (bs.map V.bl) ∧ bs.any id = false ∧ Same H H1 := by
  obtain ⟨acc, s1, hd, _, e⟩ := h
  refine ⟨List.replicate n false, ?_, List.any_eq_false.mpr fun x hx => by rw [(List.mem_replicate.mp hx).2]; exact Bool.false_ne_true, s1⟩
  rw [List.map_replicate, ← e]
  exact SqL.of hd
theorem kit_own {K : PySem.W.Frag} (c : Value) : PySem.W.kitOne K c c = some true := if_pos (beq_self_eq_true c)
theorem roomU {k : Nat} {A : Around} (r : Room k A) : A.units + 64 < cLine := by
  have := r.un
  omega
section
variable {P : Program} {w : World} {K : PySem.W.Frag} {mg : Str → Option Value} {base : Heap}
/-! are_makers, of makers that are none too great -/
def sp_are_makers (K : PySem.W.Frag) : Sp := fun vs H Q _ => ∃ (a : Addr) (ms : List Nat) (t : Nat), vs = [.ref a, nV t] ∧ H a = some (.tup (ms.map nV)) ∧ ms.length ≤ 1000 ∧ (∀ m ∈ ms, 1 ≤ m ∧ m ≤ t) ∧ ∀ H', Same H H' → Q (.bl true) H'
theorem sc_are_makers : FnScope ["thing", "most", "maker"] ["thing", "most"] (defScope s_are_makers) := ⟨rfl, rfl, rfl, by decide +kernel, rfl, by decide +kernel, by decide +kernel⟩
theorem ok_are_makers (T : Txt K mg) : Pr P w K mg base 2 "are_makers" ["thing", "most"] (sp_are_makers K) := by
  have G_is_integer : Pr P w K mg base 1 "is_integer" _ _ := ok_is_integer T
  refine T.d_are_makers.pr sc_are_makers (fun vs H Q E h => ?_) (fun _ _ _ _ _ _ us hl => match us, hl with | [_, _], _ => rfl) (fun f cdv A outer s H vs Q E hr h => ?_)
  · obtain ⟨a, ms, t, rfl, _⟩ := h
    rfl
  · obtain ⟨a, ms, t, rfl, ha, hl, hb, k⟩ := h
    refine ⟨_, (pss_cons (ps_if (PW.pt (pw_or (pt_not (pt_val (pe_callB call_isi rfl T.b_isinstance (by decide +kernel) (pa_cons (pv 0) (pa_cons (pe_bltn (v := .ty "tuple") (by rfl) T.b_tuple (by decide +kernel) rfl) pa_nil))))) (pw_or1 (pt_not (pt_val (pe_callB (cr_all rfl) rfl T.b_all (by decide +kernel) (pa_cons (pe_lc (own := [("maker", 2)]) (g := gName 2) (tt := tYes) rfl sc_are_makers.nd (pi_tup (pv 0)) (blkOk_by (N := ["thing", "most", "maker"]) (sc := defScope s_are_makers) (by decide +kernel)) (fun _ _ _ _ _ => (pg_n 2 sc_are_makers.nd)) (fun _ _ _ _ _ => pts_nil) (fun _ _ _ _ _ => (pe_and (pe_callP G_is_integer hr (by decide) (pa_cons (pv 2) pa_nil)) (pe_one (pe_cmpR op_gt (pv 2) pe_int (nomark _)))))) pa_nil)))))))
      (pss_one (ps_ret pe_bl))
      pss_nil)
    (pss_one (ps_ret (pe_or (pe_cmpR op_isN (pv 1) pe_non (nomark _)) (pe_one (pe_not (pe_callB (cr_any rfl) rfl T.b_any (by decide +kernel) (pa_cons (pe_lc (own := [("maker", 2)]) (g := gName 2) (tt := tYes) rfl sc_are_makers.nd (pi_tup (pv 0)) (blkOk_by (N := ["thing", "most", "maker"]) (sc := defScope s_are_makers) (by decide +kernel)) (fun _ _ _ _ _ => (pg_n 2 sc_are_makers.nd)) (fun _ _ _ _ _ => pts_nil) (fun _ _ _ _ _ => (pe_cmpR op_gt (pv 2) (pv 1) (nomark _)))) pa_nil)))))))), ?_⟩
    simp only [st_c, st_n, st_0]
    refine ⟨_, rfl, _, _, _, _, true, rfl, .ty _, .base (.tup ha), kit_ty (by decide +kernel), true, rfl, iteF ?_⟩
    refine ⟨_, rfl, a, rfl, ⟨_, SqT.of ha⟩, fun D hD => ?_⟩
    refine lc_it walk_tup (LcP H D (RB true)) (LcP.zero hD rfl) (fun i H1 _ ⟨_, s1, _⟩ => SqT.of (s1 _ _ ha)) ?_ fun H2 h2 => ?_
    · rintro i x H1 _ hi ⟨acc, s1, hd, hle, e⟩ ⟨rfl, hx⟩
      obtain ⟨m, hm, rfl⟩ := nV_at hx
      refine ⟨rfl, tyes ?_⟩
      refine ⟨_, rfl, m, rfl, true, rfl, iteT ⟨_, rfl, _, _, rfl, rfl, ?_⟩⟩
      have hm1 := (hb m (List.mem_of_getElem? hm)).1
      dsimp only
      rw [decide_eq_true (show (0 : Int) < (m : Int) by omega)]
      exact putB hD s1 hd hle e (Nat.lt_of_lt_of_le hi (by rw [List.length_map]; exact Nat.le_trans hl (by decide))) (Same.refl _)
    obtain ⟨bs, hq, eb, s3⟩ := finAll (K := K) h2
    refine ⟨D, bs, rfl, hq, ?_⟩
    rw [eb]
    refine ⟨_, rfl, iteF ?_⟩
    refine ⟨_, rfl, rfl, _, rfl, ?_⟩
    have e2 : decide (nV t = V.non) = false := decide_eq_false fun z => nomatch z
    rw [e2]
    refine iteF ?_
    refine ⟨_, rfl, a, rfl, ⟨_, SqT.of (s3 _ _ ha)⟩, fun D2 hD2 => ?_⟩
    refine lc_it walk_tup (LcP H2 D2 (RB false)) (LcP.zero hD2 rfl) (fun i H1 _ ⟨_, s1, _⟩ => SqT.of (s1 _ _ (s3 _ _ ha))) ?_ fun H4 h4 => ?_
    · rintro i x H1 _ hi ⟨acc, s1, hd, hle, e⟩ ⟨rfl, hx⟩
      obtain ⟨m, hm, rfl⟩ := nV_at hx
      refine ⟨rfl, tyes ?_⟩
      refine ⟨_, rfl, _, rfl, _, _, rfl, rfl, ?_⟩
      have hm1 := (hb m (List.mem_of_getElem? hm)).2
      dsimp only
      rw [decide_eq_false (show ¬ (t : Int) < (m : Int) by omega)]
      exact putB hD2 s1 hd hle e (Nat.lt_of_lt_of_le hi (by rw [List.length_map]; exact Nat.le_trans hl (by decide))) (Same.refl _)
    obtain ⟨bs, hq, eb, s5⟩ := finAny (K := K) h4
    refine ⟨D2, bs, rfl, hq, ?_⟩
    rw [eb]
    exact ⟨_, rfl, k _ (s3.trans s5)⟩
/-! a lot as it stands in the heap -/
structure LotAt (K : PySem.W.Frag) (H : Hp) (p : Addr) (z : Str) (ms : List Nat) : Prop where
  ex : ∃ (dx mk : Addr) (lz : V), H p = some (.ins (He.ga K "Lot") dx [("word", .str z), ("makers", .ref mk), ("leasts", lz)]) ∧ H mk = some (.tup (ms.map nV))
theorem LotAt.same {H H' : Hp} {p : Addr} {z : Str} {ms : List Nat} (e : Same H H') (h : LotAt K H p z ms) : LotAt K H' p z ms := by
  obtain ⟨dx, mk, lz, h1, h2⟩ := h.ex
  exact ⟨dx, mk, lz, e _ _ h1, e _ _ h2⟩
/-- a word and its makers, as a lot wants them -/
structure LotOk (z : Str) (ms : List Nat) : Prop where
  word : z = "once" ∨ z = "loan" ∨ z = "free" ∨ z = "more"
  len : ms.length ≤ 1001
  rng : ∀ m ∈ ms, 1 ≤ m ∧ m ≤ 12
  more : ms ≠ [] ↔ z = "more"
def sp_Lot_keep (K : PySem.W.Frag) : Sp := fun vs H Q _ => ∃ (x a dx : Addr) (z : Str) (ms : List Nat), vs = [.ref x, .str z, .ref a] ∧ H x = some (.ins (He.ga K "Lot") dx []) ∧ H a = some (.tup (ms.map nV)) ∧ LotOk z ms ∧ ms.length ≤ 4 ∧
  ∀ H' ns, SameX x H H' → LotAt K H' x z ns → LotOk z ns → (∀ n ∈ ns, n ∈ ms) → Q .non H'
theorem sc_Lot_keep : FnScope ["self", "word", "makers"] ["self", "word", "makers"] (defScope s_Lot_keep) := ⟨rfl, rfl, rfl, by decide +kernel, rfl, by decide +kernel, by decide +kernel⟩
theorem ok_Lot_keep (T : Txt K mg) : PrM P w K mg base 3 "Lot" "keep" ["self", "word", "makers"] (sp_Lot_keep K) := by
  have G_leasts_of : Pr P w K mg base 1 "leasts_of" _ _ := ok_leasts_of T
  have G_needed_makers : Pr P w K mg base 2 "needed_makers" _ _ := ok_needed_makers T
  refine T.d_Lot_keep.pr sc_Lot_keep (fun vs H Q E h => ?_) (fun _ _ _ _ _ _ us hl => match us, hl with | [_, _, _], _ => rfl) (fun f cdv A outer s H vs Q E hr h => ?_)
  · obtain ⟨x, a, dx, z, ms, rfl, _⟩ := h
    rfl
  · obtain ⟨x, a, dx, z, ms, rfl, hx, ha, ok, hl4, k⟩ := h
    refine ⟨_, (pss_cons (ps_fld (pv 0) (pv 1) rfl)
    (pss_cons (ps_fld (pv 0) (pe_callP G_needed_makers hr (by decide) (pa_cons (pv 2) pa_nil)) rfl)
    (pss_one (ps_fld (pv 0) (pe_ifExp (pt_cmpR op_eq (pv 1) (pe_cS T.k_MORE) (nomark _)) (pe_callP G_leasts_of hr (by decide) (pa_cons (pe_fld (pv 0) rfl) pa_nil)) (pe_lst pa_nil)) rfl)))), ?_⟩
    simp only [st_c, st_n, st_0]
    have nax : a ≠ x := fun e => by rw [e, hx] at ha; cases ha
    refine ⟨_, rfl, _, rfl, x, _, _, _, rfl, hx, T.o_Lot.cl, T.n_Lot_word, (Nat.le_of_ble_eq_true rfl), ?_⟩
    refine ⟨_, rfl, a, ms, rfl, (by rw [upd_ne nax]; exact ha), Nat.le_trans hl4 (by decide), fun m hm => ⟨(ok.rng m hm).1, Nat.le_trans (ok.rng m hm).2 (by decide)⟩, fun H2 p ns s2 hp hmem hne hfr hnl => ?_⟩
    have x2 := s2 _ _ (upd_same (H := H) (a := x) (o := .ins (He.ga K "Lot") dx (putF "word" (.str z) [])))
    have npx : p ≠ x := fun e => by rw [e, x2] at hp; cases hp
    refine ⟨_, rfl, x, _, _, _, rfl, x2, T.o_Lot.cl, T.n_Lot_makers, (Nat.le_of_ble_eq_true rfl), ?_⟩
    have ok2 : LotOk z ns := by
      refine ⟨ok.word, hnl, fun m hm => ok.rng m (hmem m hm), ⟨fun q => ok.more.mp ?_, fun q => hne (ok.more.mpr q)⟩⟩
      intro e
      obtain ⟨n, r, rfl⟩ := List.exists_cons_of_ne_nil q
      have := hmem n List.mem_cons_self
      rw [e] at this
      cases this
    have sx : SameX x H H2 := fun b o nb q => s2 _ _ (by rw [upd_ne nb]; exact q)
    have npn : ∀ H3, H3 = upd H2 x (.ins (He.ga K "Lot") dx (putF "makers" (.ref p) (putF "word" (.str z) []))) → SameX x H H3 := fun H3 e b o nb q => by
      rw [e, upd_ne nb]
      exact sx b o nb q
    refine ⟨_, rfl, rfl, _, rfl, ?_⟩
    have e0 : ∀ (v : V) (H3 : Hp), Same (upd H2 x (.ins (He.ga K "Lot") dx (putF "makers" (.ref p) (putF "word" (.str z) [])))) H3 → LotAt K (upd H3 x (.ins (He.ga K "Lot") dx (putF "leasts" v (putF "makers" (.ref p) (putF "word" (.str z) []))))) x z ns ∧ SameX x H (upd H3 x (.ins (He.ga K "Lot") dx (putF "leasts" v (putF "makers" (.ref p) (putF "word" (.str z) []))))) := by
      intro v H3 s3
      refine ⟨⟨dx, p, v, upd_same, ?_⟩, fun b o nb q => ?_⟩
      · rw [upd_ne npx]
        exact s3 _ _ (by rw [upd_ne npx]; exact hp)
      · rw [upd_ne nb]
        exact s3 _ _ (by rw [upd_ne nb]; exact sx b o nb q)
    by_cases hz : z = "more"
    · rw [dec_str, hz, beq_self_eq_true, ← hz]
      refine iteT ?_
      refine ⟨_, rfl, x, _, dx, _, _, rfl, upd_same, T.o_Lot.cl, T.n_Lot_makers, rfl, p, ns, rfl, .inr (by rw [upd_ne npx]; exact hp), ok2.more.mpr hz, fun m hm => ⟨(ok2.rng m hm).1, Nat.le_trans (ok2.rng m hm).2 (by decide)⟩, fun H3 q ls hq s3 hq2 hls => ?_⟩
      refine ⟨_, rfl, x, _, _, _, rfl, s3 _ _ upd_same, T.o_Lot.cl, T.n_Lot_leasts, (Nat.le_of_ble_eq_true rfl), ?_⟩
      obtain ⟨l1, l2⟩ := e0 (.ref q) H3 s3
      exact k _ ns l2 l1 ok2 hmem
    · rw [dec_str, show (z == ("more" : Str)) = false from beq_eq_false_iff_ne.mpr hz]
      refine iteF ?_
      refine ⟨Nat.zero_le _, fun q hq => ?_⟩
      refine ⟨_, rfl, x, _, _, _, rfl, same_upd hq _ _ upd_same, T.o_Lot.cl, T.n_Lot_leasts, (Nat.le_of_ble_eq_true rfl), ?_⟩
      obtain ⟨l1, l2⟩ := e0 (.ref q) _ (same_upd hq)
      exact k _ ns l2 l1 ok2 hmem
/-! Lot(word, makers) -/
def sp_Lot_init (K : PySem.W.Frag) : Sp := fun vs H Q _ => ∃ (x a dx : Addr) (z : Str) (ms : List Nat), vs = [.ref x, .str z, .ref a] ∧ H x = some (.ins (He.ga K "Lot") dx []) ∧ H a = some (.tup (ms.map nV)) ∧ LotOk z ms ∧ ms.length ≤ 4 ∧
  ∀ H' ns, SameX x H H' → LotAt K H' x z ns → LotOk z ns → (∀ n ∈ ns, n ∈ ms) → Q .non H'
theorem sc_Lot_init : FnScope ["self", "word", "makers"] ["self", "word", "makers"] (defScope s_Lot_init) := ⟨rfl, rfl, rfl, by decide +kernel, rfl, by decide +kernel, by decide +kernel⟩
theorem ok_Lot_init (T : Txt K mg) : PrM P w K mg base 4 "Lot" "__init__" ["self", "word", "makers"] (sp_Lot_init K) := by
  have G_are_makers : Pr P w K mg base 2 "are_makers" _ _ := ok_are_makers T
  have G_Lot_keep : PrM P w K mg base 3 "Lot" "keep" _ _ := ok_Lot_keep T
  refine T.d_Lot_init.pr sc_Lot_init (fun vs H Q E h => ?_) (fun _ _ _ _ _ _ us hl => match us, hl with | [_, _, _], _ => rfl) (fun f cdv A outer s H vs Q E hr h => ?_)
  · obtain ⟨x, a, dx, z, ms, rfl, _⟩ := h
    rfl
  · obtain ⟨x, a, dx, z, ms, rfl, hx, ha, ok, hl4, k⟩ := h
    refine ⟨_, (pss_cons (ps_if (PW.pt (pw_or (pt_not (pt_val (pe_callB call_isi rfl T.b_isinstance (by decide +kernel) (pa_cons (pv 1) (pa_cons (pe_bltn (v := .ty "str") (by rfl) T.b_str (by decide +kernel) rfl) pa_nil))))) (pw_or1 (pt_cmpR (op_notInK (K := K) rfl) (pv 1) (pe_tup (pa_cons (pe_cS T.k_ONCE) (pa_cons (pe_cS T.k_LOAN) (pa_cons (pe_cS T.k_FREE) (pa_cons (pe_cS T.k_MORE) pa_nil))))) (by with_unfolding_all rfl)))))
      (pss_one ps_never)
      pss_nil)
    (pss_cons (ps_if (PW.pt (pw_or (pt_not (pt_val (pe_callP G_are_makers hr (by decide) (pa_cons (pv 2) (pa_cons (pe_cI T.k_MOST_MAKER) pa_nil))))) (pw_or (pt_cmpR op_ne (pe_cmpR op_gt (pe_callB call_len rfl T.b_len (by decide +kernel) (pa_cons (pv 2) pa_nil)) pe_int (nomark _)) (pe_cmpR op_eq (pv 1) (pe_cS T.k_MORE) (nomark _)) (nomark _)) (pw_or1 (pt_cmpR op_gt (pe_callB call_len rfl T.b_len (by decide +kernel) (pa_cons (pv 2) pa_nil)) (pe_cI T.k_MOST_MAKERS) (nomark _))))))
      (pss_one ps_never)
      pss_nil)
    (pss_one (ps_expr (pe_methP G_Lot_keep T.t_Lot_keep T.o_Lot.cl hr (by decide) (pv 0) (pa_cons (pv 1) (pa_cons (pv 2) pa_nil))))))), ?_⟩
    simp only [st_c, st_n, st_0]
    refine ⟨_, rfl, _, _, _, _, true, rfl, .ty _, .base (.str z), kit_ty (by decide +kernel), true, rfl, iteF ?_⟩
    refine ⟨_, rfl, Nat.le_of_ble_eq_true rfl, fun tp htp => ⟨tp, _, rfl, .inr (SqT.of upd_same), rfl, rfl, ?_⟩⟩
    have ew : inV (.str z) [.str "once", .str "loan", .str "free", .str "more"] = true := by
      rcases ok.word with rfl | rfl | rfl | rfl <;> decide +kernel
    dsimp only
    rw [ew]
    refine ⟨false, rfl, iteF ?_⟩
    refine ⟨_, rfl, a, ms, 12, rfl, same_upd htp _ _ ha, Nat.le_trans hl4 (by decide), ok.rng, fun H2 s2 => ⟨true, rfl, iteF ?_⟩⟩
    have hl : LenV K (.ref a) H2 ms.length := .inr ⟨_, SqT.of (s2 _ _ (same_upd htp _ _ ha)), by rw [List.length_map]⟩
    refine ⟨_, rfl, _, ms.length, rfl, hl, _, _, rfl, rfl, _, rfl, rfl, rfl, _, rfl, ?_⟩
    have e1 : (!decide (V.bl (decide ((0 : Int) < (ms.length : Int))) = V.bl (decide (V.str z = V.str "more")))) = false := by
      rw [dec_bl, dec_str]
      by_cases hm : ms = []
      · have hz : z ≠ "more" := fun e => ok.more.mpr e hm
        rw [hm, show (z == ("more" : Str)) = false from beq_eq_false_iff_ne.mpr hz]
        rfl
      · rw [ok.more.mp hm, beq_self_eq_true, decide_eq_true (show (0 : Int) < (ms.length : Int) by have := List.length_pos_iff.mpr hm; omega)]
        rfl
    rw [e1]
    refine iteF ?_
    refine ⟨_, rfl, _, ms.length, rfl, hl, _, _, rfl, rfl, _, rfl, ?_⟩
    rw [decide_eq_false (show ¬ (4 : Int) < (ms.length : Int) by omega)]
    refine iteF ?_
    have x2 := s2 _ _ (same_upd htp _ _ hx)
    refine ⟨_, rfl, x, dx, _, rfl, x2, rfl, _, rfl, _, rfl, x, a, dx, z, ms, rfl, x2, s2 _ _ (same_upd htp _ _ ha), ok, hl4, fun H3 ns s3 la ok3 hm3 => k H3 ns (fun b o nb q => s3 b o nb (s2 _ _ (same_upd htp _ _ q))) la ok3 hm3⟩
/-! Lot == Lot: its own lot, or one of another word -/
def sp_Lot_eq (K : PySem.W.Frag) : Sp := fun vs H Q _ => ∃ (a b : Addr) (z1 z2 : Str) (m1 m2 : List Nat), vs = [.ref a, .ref b] ∧ LotAt K H a z1 m1 ∧ LotAt K H b z2 m2 ∧ Q (.bl (decide (z1 = z2 ∧ m1 = m2))) H
theorem sc_Lot_eq : FnScope ["self", "other"] ["self", "other"] (defScope s_Lot_eq) := ⟨rfl, rfl, rfl, by decide +kernel, rfl, by decide +kernel, by decide +kernel⟩
theorem ok_Lot_eq (T : Txt K mg) : PrM P w K mg base 1 "Lot" "__eq__" ["self", "other"] (sp_Lot_eq K) := by
  refine T.d_Lot_eq.pr sc_Lot_eq (fun vs H Q E h => ?_) (fun _ _ _ _ _ _ us hl => match us, hl with | [_, _], _ => rfl) (fun f cdv A outer s H vs Q E hr h => ?_)
  · obtain ⟨a, b, z1, z2, m1, m2, rfl, _⟩ := h
    rfl
  · obtain ⟨a, b, z1, z2, m1, m2, rfl, h1, h2, k⟩ := h
    obtain ⟨dx, mk, lz, a1, a2⟩ := h1.ex
    obtain ⟨dy, mk2, lz2, b1, b2⟩ := h2.ex
    have hu64 := roomU hr
    refine ⟨_, (pss_one (ps_ret (pe_and (pe_callB call_isi rfl T.b_isinstance (by decide +kernel) (pa_cons (pv 1) (pa_cons (pe_glob (v := .ref (He.ga K "Lot")) (by rfl) T.g_Lot rfl) pa_nil))) (pe_and (pe_cmpR op_eq (pe_fld (pv 0) rfl) (pe_fld (pv 1) rfl) (nomark _)) (pe_one (pe_cmpR (op_eqD hu64) (pe_fld (pv 0) rfl) (pe_fld (pv 1) rfl) (nomark _))))))), ?_⟩
    simp only [st_c, st_n, st_0]
    refine ⟨_, rfl, _, _, _, _, true, rfl, .own _, T.o_Lot.ty b1, kit_own _, true, rfl, iteT ?_⟩
    refine ⟨_, rfl, a, _, dx, _, _, rfl, a1, T.o_Lot.cl, T.n_Lot_word, rfl, _, rfl, b, _, dy, _, _, rfl, b1, T.o_Lot.cl, T.n_Lot_word, rfl, rfl, ?_⟩
    rw [dec_str]
    refine ⟨_, rfl, ?_⟩
    by_cases hz : z1 = z2
    · rw [hz, beq_self_eq_true]
      refine iteT ⟨_, rfl, a, _, dx, _, _, rfl, a1, T.o_Lot.cl, T.n_Lot_makers, rfl, _, rfl, b, _, dy, _, _, rfl, b1, T.o_Lot.cl, T.n_Lot_makers, rfl, ?_⟩
      refine rEqT (SqT.of a2) (SqT.of b2) (qb k ?_)
      simp [hz]
    · rw [beq_eq_false_iff_ne.mpr hz]
      refine iteF (qb k ?_)
      simp [hz]
end
end UC
set_option Elab.async false
set_option linter.all false
set_option maxRecDepth 100000
set_option maxHeartbeats 4000000
/-! Kinds and books. -/
namespace UC
open PySem PySem.Spec PyProof.Rows L2
/-- every letter is below n -/
def Kd.lets (n : Nat) : Kd → Prop
  | .lt k => k < n
  | .ar a b => a.lets n ∧ b.lets n
theorem Kd.lets_le {n m : Nat} (h : n ≤ m) : ∀ {k : Kd}, k.lets n → k.lets m
  | .lt _, q => Nat.lt_of_lt_of_le q h
  | .ar _ _, ⟨a, b⟩ => ⟨Kd.lets_le h a, Kd.lets_le h b⟩
theorem KdAt.keepL {H : Hp} {l : Addr} {xs : List V} {o : HO} (h : H l = some (.lst xs)) : ∀ {k : Kd} {v : V}, KdAt H k v → KdAt (upd H l o) k v
  | .lt _, _, q => q
  | .ar _ _, _, ⟨p, x, y, h1, h2, h3, h4⟩ => ⟨p, x, y, h1, by rw [upd_ne (fun e => by rw [e, h] at h2; cases h2)]; exact h2, KdAt.keepL h h3, KdAt.keepL h h4⟩
def szs (ts : List (Kd × V)) : Nat := (ts.map fun t => 2 * t.1.size - 1).sum
theorem szs_app (a b : List (Kd × V)) : szs (a ++ b) = szs a + szs b := by
  unfold szs
  rw [List.map_append, List.sum_append]
theorem szs_len : ∀ ts : List (Kd × V), ts.length ≤ szs ts
  | [] => Nat.le_refl _
  | t :: ts => by
    have h := Kd.size_pos t.1
    have i := szs_len ts
    show ts.length + 1 ≤ (2 * t.1.size - 1) + szs ts
    omega
/-- the last item of a list of pairs -/
theorem snd_last (ts : List (Kd × V)) (t : Kd × V) : ((ts ++ [t]).map (·.2))[((ts ++ [t]).map (·.2)).length - 1]? = some t.2 := by simp
theorem snd_drop (ts : List (Kd × V)) (t : Kd × V) : ((ts ++ [t]).map (·.2)).dropLast = ts.map (·.2) := by simp
section
variable {P : Program} {w : World} {K : PySem.W.Frag} {mg : Str → Option Value} {base : Heap}
theorem len_gt {n : Nat} (h : 0 < n) : decide ((0 : Int) < (n : Int)) = true := decide_eq_true (by omega)
def sp_is_kind (K : PySem.W.Frag) : Sp := fun vs H Q _ => ∃ (k : Kd) (v : V), vs = [v] ∧ KdAt H k v ∧ k.lets 26 ∧ k.size ≤ 1000 ∧ ∀ H', Same H H' → Q (.bl true) H'
theorem sc_is_kind_of_any_size : FnScope ["thing", "waiting", "here"] ["thing"] (defScope s_is_kind_of_any_size) := ⟨rfl, rfl, rfl, by decide +kernel, rfl, by decide +kernel, by decide +kernel⟩
theorem ok_is_kind (T : Txt K mg) : Pr P w K mg base 3 "is_kind_of_any_size" ["thing"] (sp_is_kind K) := by
  have G_is_pair : Pr P w K mg base 1 "is_pair" _ _ := ok_is_pair T
  have G_is_within : Pr P w K mg base 2 "is_within" _ _ := ok_is_within T
  refine T.d_is_kind_of_any_size.pr sc_is_kind_of_any_size (fun vs H Q E h => ?_) (fun _ _ _ _ _ _ us hl => match us, hl with | [_], _ => rfl) (fun f cdv A outer s H vs Q E hr h => ?_)
  · obtain ⟨k, v, rfl, _⟩ := h
    rfl
  · obtain ⟨k, v, rfl, hk, hb, hz, q⟩ := h
    refine ⟨_, (pss_cons (ps_s 1 sc_is_kind_of_any_size.nd (pe_lst (pa_cons (pv 0) pa_nil)))
    (pss_cons (ps_while PassesOwn.never (pt_cmpR op_gt (pe_callB call_len rfl T.b_len (by decide +kernel) (pa_cons (pv 1) pa_nil)) pe_int (nomark _))
      (pss_cons (ps_s 2 sc_is_kind_of_any_size.nd (pe_bm0 PySem.F.plainAttrs_list PySem.F.slot_list_pop PySem.F.type_list_pop mt_pop (pv 1)))
      (pss_one (ps_if (pt_val (pe_callP G_is_pair hr (by decide) (pa_cons (pv 2) pa_nil)))
        (pss_one (ps_expr (pe_bm PySem.F.plainAttrs_list PySem.F.slot_list_extend PySem.F.type_list_extend mt_extendT (pv 1) (pa_cons (pv 2) pa_nil))))
        (pss_one (ps_if (pt_not (pt_val (pe_callP G_is_within hr (by decide) (pa_cons (pv 2) (pa_cons pe_int (pa_cons (pe_cI T.k_LAST_LETTER) pa_nil))))))
          (pss_one (ps_ret pe_bl))
          pss_nil))))))
    (pss_one (ps_ret pe_bl)))), ?_⟩
    simp only [st_c, st_n, st_0]
    refine ⟨_, rfl, Nat.le_of_ble_eq_true rfl, fun l hl => ?_⟩
    refine ⟨fun m σ H' => ∃ (ts : List (Kd × V)) (x : Option V), m = szs ts ∧ m ≤ 2 * k.size ∧ σ = [some v, some (.ref l), x] ∧ Same H H' ∧ H' l = some (.lst (ts.map (·.2))) ∧ ∀ t ∈ ts, KdAt H' t.1 t.2 ∧ t.1.lets 26,
      ⟨2 * k.size - 1, [(k, v)], _, rfl, Nat.sub_le _ _, rfl, same_upd hl, upd_same, fun t ht => by cases List.mem_singleton.mp ht; exact ⟨hk.same (same_upd hl), hb⟩⟩, ?_⟩
    rintro m σ H' ⟨ts, x, rfl, hm, rfl, s1, h1, h2⟩
    refine ⟨_, rfl, _, (ts.map (·.2)).length, rfl, .inl ⟨_, SqL.of h1, rfl⟩, _, _, rfl, rfl, _, rfl, ?_⟩
    rcases List.eq_nil_or_concat ts with rfl | ⟨ts, t, rfl⟩
    · exact iteF (q _ s1)
    · rw [List.concat_eq_append] at *
      obtain ⟨tk, tv⟩ := t
      rw [len_gt (by simp)]
      have hsz : szs (ts ++ [(tk, tv)]) = szs ts + (2 * tk.size - 1) := by rw [szs_app]; rfl
      obtain ⟨ht1, ht2⟩ := h2 (tk, tv) (by simp)
      refine iteT ⟨fun σ' H2 => ∃ m', m' < szs (ts ++ [(tk, tv)]) ∧ ∃ (ts : List (Kd × V)) (x : Option V), m' = szs ts ∧ m' ≤ 2 * k.size ∧ σ' = [some v, some (.ref l), x] ∧ Same H H2 ∧ H2 l = some (.lst (ts.map (·.2))) ∧ ∀ t ∈ ts, KdAt H2 t.1 t.2 ∧ t.1.lets 26, fun σ' H2 h => h, ?_⟩
      refine ⟨_, rfl, .inl ⟨rfl, _, SqL.of h1⟩, l, _, tv, rfl, rfl, h1, snd_last ts _, ?_⟩
      rw [snd_drop]
      have hl0 : H l = none := hl
      have s2 : Same H (upd H' l (.lst (ts.map (·.2)))) := same_put hl0 s1
      cases tk with
      | lt n =>
        cases (show tv = nV n from ht1)
        refine ⟨_, rfl, .inl ⟨_, rfl, false, rfl, iteF ?_⟩⟩
        refine ⟨_, rfl, n, 0, 25, rfl, ?_⟩
        rw [decide_eq_true (show (0 : Int) ≤ (n : Int) ∧ (n : Int) ≤ 25 from ⟨by omega, by have : n < 26 := ht2; omega⟩)]
        refine ⟨true, rfl, iteF ?_⟩
        refine ⟨szs ts, by rw [hsz]; show szs ts < szs ts + 1; omega, ts, _, rfl, by omega, rfl, s2, upd_same, fun t ht => ⟨(h2 t (List.mem_append_left _ ht)).1.keepL h1, (h2 t (List.mem_append_left _ ht)).2⟩⟩
      | ar a b =>
        have ht3 := KdAt.keepL (o := .lst (ts.map (·.2))) h1 ht1
        obtain ⟨p, x1, x2, rfl, hp, ha, hb2⟩ := ht3
        refine ⟨_, rfl, .inr ⟨p, _, rfl, hp, true, rfl, iteT ?_⟩⟩
        have len : ts.length ≤ 2000 := Nat.le_trans (szs_len ts) (by omega)
        refine ⟨_, rfl, .inl ⟨rfl, _, SqL.of upd_same⟩, _, rfl, l, p, _, _, rfl, rfl, upd_same, hp, (by rw [List.length_map]; exact Nat.le_trans (Nat.add_le_add_right len 2) (by decide)), ?_⟩
        have hz2 : szs (ts ++ [(a, x1), (b, x2)]) < szs (ts ++ [(Kd.ar a b, V.ref p)]) := by
          rw [hsz, szs_app]
          have h1 := Kd.size_pos a
          have h2 := Kd.size_pos b
          show szs ts + ((2 * a.size - 1) + ((2 * b.size - 1) + 0)) < szs ts + (2 * (a.size + b.size) - 1)
          omega
        refine ⟨szs (ts ++ [(a, x1), (b, x2)]), hz2, ts ++ [(a, x1), (b, x2)], _, rfl, by omega, rfl, same_put hl0 s2, by rw [upd_same, List.map_append]; rfl, fun t ht => ?_⟩
        rcases List.mem_append.mp ht with e | e
        · exact ⟨((h2 t (List.mem_append_left _ e)).1.keepL h1).keepL upd_same, (h2 t (List.mem_append_left _ e)).2⟩
        · rcases (show t = (a, x1) ∨ t = (b, x2) by simpa using e) with rfl | rfl
          · exact ⟨ha.keepL upd_same, ht2.1⟩
          · exact ⟨hb2.keepL upd_same, ht2.2⟩
def sp_check_kind (K : PySem.W.Frag) : Sp := fun vs H Q _ => ∃ (k : Kd) (v : V), vs = [v] ∧ KdAt H k v ∧ k.lets 26 ∧ k.size ≤ 1000 ∧ ∀ H', Same H H' → Q .non H'
theorem sc_check_kind : FnScope ["thing"] ["thing"] (defScope s_check_kind) := ⟨rfl, rfl, rfl, by decide +kernel, rfl, by decide +kernel, by decide +kernel⟩
theorem ok_check_kind (T : Txt K mg) : Pr P w K mg base 4 "check_kind" ["thing"] (sp_check_kind K) := by
  have G_is_kind_of_any_size : Pr P w K mg base 3 "is_kind_of_any_size" _ _ := ok_is_kind T
  refine T.d_check_kind.pr sc_check_kind (fun vs H Q E h => ?_) (fun _ _ _ _ _ _ us hl => match us, hl with | [_], _ => rfl) (fun f cdv A outer s H vs Q E hr h => ?_)
  · obtain ⟨k, v, rfl, _⟩ := h
    rfl
  · obtain ⟨k, v, rfl, hk, hb, hz, q⟩ := h
    refine ⟨_, (pss_one (ps_if (pt_not (pt_val (pe_callP G_is_kind_of_any_size hr (by decide) (pa_cons (pv 0) pa_nil))))
      (pss_one ps_never)
      pss_nil)), ?_⟩
    simp only [st_c, st_n, st_0]
    exact ⟨_, rfl, k, v, rfl, hk, hb, hz, fun H' s1 => ⟨true, rfl, iteF (q H' s1)⟩⟩
/-! names -/
def sp_is_name : Sp := fun vs H Q _ => ∃ z : Str, vs = [.str z] ∧ (z = "ta" ∨ z = "tb" ∨ z = "tc") ∧ ∀ H', Same H H' → Q (.bl true) H'
theorem sc_is_name : FnScope ["thing", "sign"] ["thing"] (defScope s_is_name) := ⟨rfl, rfl, rfl, by decide +kernel, rfl, by decide +kernel, by decide +kernel⟩
theorem ok_is_name (T : Txt K mg) : Pr P w K mg base 1 "is_name" ["thing"] sp_is_name := by
  refine T.d_is_name.pr sc_is_name (fun vs H Q E h => ?_) (fun _ _ _ _ _ _ us hl => match us, hl with | [_], _ => rfl) (fun f cdv A outer s H vs Q E hr h => ?_)
  · obtain ⟨z, rfl, _⟩ := h
    rfl
  · obtain ⟨z, rfl, hz, q⟩ := h
    refine ⟨_, (pss_one (ps_ret (pe_and (pe_callB call_isi rfl T.b_isinstance (by decide +kernel) (pa_cons (pv 0) (pa_cons (pe_bltn (v := .ty "str") (by rfl) T.b_str (by decide +kernel) rfl) pa_nil))) (pe_and (pe_chain op_le op_le pe_int (pe_callB call_len rfl T.b_len (by decide +kernel) (pa_cons (pv 0) pa_nil)) (pe_cI T.k_MOST_SIGNS)) (pe_one (pe_callB (cr_all rfl) rfl T.b_all (by decide +kernel) (pa_cons (pe_lc (own := [("sign", 1)]) (g := gName 1) (tt := tYes) rfl sc_is_name.nd (pi_str (pv 0)) (blkOk_by (N := ["thing", "sign"]) (sc := defScope s_is_name) (by decide +kernel)) (fun _ _ _ _ _ => (pg_n 1 sc_is_name.nd)) (fun _ _ _ _ _ => pts_nil) (fun _ _ _ _ _ => (pe_cmpR op_in_str (pv 1) (pe_cS T.k_SMALL) (by with_unfolding_all rfl)))) pa_nil))))))), ?_⟩
    simp only [st_c, st_n, st_0]
    have hlen : z.length = 2 := by rcases hz with rfl | rfl | rfl <;> rfl
    have hsz : z.cps.size = 2 := by rcases hz with rfl | rfl | rfl <;> rfl
    have hc : ∀ (i : Nat) (c : _), z.cps[i]? = some c → (!(Builtin.Str.occurrences "abcdefghijklmnopqrstuvwxyz" ⟨#[c]⟩ 0 (Str.length "abcdefghijklmnopqrstuvwxyz") 1).isEmpty) = true := by
      intro i c hi
      have hm : c ∈ z.cps.toList := by
        rw [← Array.getElem?_toList] at hi
        exact List.mem_of_getElem? hi
      have all : ∀ c ∈ [116, 97, 98, 99], (!(Builtin.Str.occurrences "abcdefghijklmnopqrstuvwxyz" ⟨#[c]⟩ 0 (Str.length "abcdefghijklmnopqrstuvwxyz") 1).isEmpty) = true := by
        intro c hc
        rcases (show c = 116 ∨ c = 97 ∨ c = 98 ∨ c = 99 by simpa using hc) with rfl | rfl | rfl | rfl <;> (rw [PySem.StrLaws.occ_eq]; decide +kernel)
      have sub : ∀ c ∈ z.cps.toList, c ∈ [116, 97, 98, 99] := by rcases hz with rfl | rfl | rfl <;> decide +kernel
      exact all c (sub c hm)
    refine ⟨_, rfl, _, _, _, _, true, rfl, .ty _, .base (.str z), kit_ty (by decide +kernel), true, rfl, iteT ?_⟩
    refine ⟨_, rfl, _, 2, rfl, ⟨by rw [hlen]; decide, hlen.symm⟩, _, _, rfl, rfl, _, rfl, ?_⟩
    refine iteT ⟨_, _, rfl, rfl, true, rfl, iteT ?_⟩
    refine ⟨_, rfl, z, rfl, fun D hD => ?_⟩
    refine lc_it walk_str (LcP H D (RB true)) (LcP.zero hD rfl) (fun i H1 _ _ => trivial) ?_ fun H2 h2 => ?_
    · rintro i x H1 _ hi ⟨acc, s1, hd, hle, e⟩ ⟨rfl, c, hx, rfl⟩
      refine ⟨rfl, tyes ?_⟩
      refine ⟨_, rfl, _, _, rfl, rfl, ?_⟩
      dsimp only
      rw [hc i c hx]
      exact putB hD s1 hd hle e (Nat.lt_of_lt_of_le hi (by rw [hsz]; decide)) (Same.refl _)
    obtain ⟨bs, hq, eb, s3⟩ := finAll (K := K) h2
    exact ⟨D, bs, rfl, hq, qb (q _ s3) eb.symm⟩
/-! tools: pairs of a name and a kind -/
def ToolsAt (H : Hp) (a : Addr) (ts : List (Str × Kd)) : Prop := ∃ bs : List Addr, H a = some (.tup (bs.map V.ref)) ∧ Paired (fun b (t : Str × Kd) => ∃ v, H b = some (.tup [.str t.1, v]) ∧ KdAt H t.2 v) bs ts
theorem ToolsAt.same {H H' : Hp} {a : Addr} {ts : List (Str × Kd)} (e : Same H H') (h : ToolsAt H a ts) : ToolsAt H' a ts := by
  obtain ⟨bs, h1, h2⟩ := h
  exact ⟨bs, e _ _ h1, Paired.mapP h2 fun _ _ ⟨v, a, b⟩ => ⟨v, e _ _ a, b.same e⟩⟩
structure ToolsOk (ts : List (Str × Kd)) : Prop where
  len : ts.length ≤ 3
  nm : ∀ t ∈ ts, t.1 = "ta" ∨ t.1 = "tb" ∨ t.1 = "tc"
  nd : (ts.map (·.1)).Nodup
  kd : ∀ t ∈ ts, t.2.lets 26 ∧ t.2.size ≤ 1000
def sp_are_named (K : PySem.W.Frag) : Sp := fun vs H Q _ => ∃ (a b : Addr) (ts : List (Str × Kd)), vs = [.ref a, .int 8, .ref b] ∧ ToolsAt H a ts ∧ ToolsOk ts ∧ H b = some (.tup []) ∧ ∀ H', Same H H' → Q (.bl true) H'
theorem sc_are_named : FnScope ["thing", "most", "barred", "names", "item", "name"] ["thing", "most", "barred"] (defScope s_are_named) := ⟨rfl, rfl, rfl, by decide +kernel, rfl, by decide +kernel, by decide +kernel⟩
theorem ok_are_named (T : Txt K mg) : Pr P w K mg base 4 "are_named" ["thing", "most", "barred"] (sp_are_named K) := by
  have G_is_pair : Pr P w K mg base 1 "is_pair" _ _ := ok_is_pair T
  have G_is_name : Pr P w K mg base 1 "is_name" _ _ := ok_is_name T
  have G_is_kind_of_any_size : Pr P w K mg base 3 "is_kind_of_any_size" _ _ := ok_is_kind T
  refine T.d_are_named.pr sc_are_named (fun vs H Q E h => ?_) (fun _ _ _ _ _ _ us hl => match us, hl with | [_, _, _], _ => rfl) (fun f cdv A outer s H vs Q E hr h => ?_)
  · obtain ⟨a, b, ts, rfl, _⟩ := h
    rfl
  · obtain ⟨a, b, ts, rfl, hT, ok, hB, q⟩ := h
    refine ⟨_, (pss_cons (ps_if (PW.pt (pw_or (pt_not (pt_val (pe_callB call_isi rfl T.b_isinstance (by decide +kernel) (pa_cons (pv 0) (pa_cons (pe_bltn (v := .ty "tuple") (by rfl) T.b_tuple (by decide +kernel) rfl) pa_nil))))) (pw_or1 (pt_cmpR op_gt (pe_callB call_len rfl T.b_len (by decide +kernel) (pa_cons (pv 0) pa_nil)) (pv 1) (nomark _)))))
      (pss_one (ps_ret pe_bl))
      pss_nil)
    (pss_cons (ps_if (pt_not (pt_val (pe_callB (cr_all rfl) rfl T.b_all (by decide +kernel) (pa_cons (pe_lc (own := [("item", 4)]) (g := gName 4) (tt := tYes) rfl sc_are_named.nd (pi_tup (pv 0)) (blkOk_by (N := ["thing", "most", "barred", "names", "item", "name"]) (sc := defScope s_are_named) (by decide +kernel)) (fun _ _ _ _ _ => (pg_n 4 sc_are_named.nd)) (fun _ _ _ _ _ => pts_nil) (fun _ _ _ _ _ => (pe_and (pe_callP G_is_pair hr (by decide) (pa_cons (pv 4) pa_nil)) (pe_and (pe_callP G_is_name hr (by decide) (pa_cons (pe_ix (ix_tupK (K := K) rfl) (pv 4) pe_int (fun _ _ => rfl)) pa_nil)) (pe_one (pe_callP G_is_kind_of_any_size hr (by decide) (pa_cons (pe_ix (ix_tupK (K := K) rfl) (pv 4) pe_int (fun _ _ => rfl)) pa_nil))))))) pa_nil))))
      (pss_one (ps_ret pe_bl))
      pss_nil)
    (pss_cons (ps_setLc (i := 3) (own := [("item", 4)]) (g := gName 4) (tt := tYes) rfl sc_are_named.nd rfl rfl (sw_true rfl rfl rfl (by decide +kernel)) (pi_tup (pv 0)) (blkOk_by (N := ["thing", "most", "barred", "names", "item", "name"]) (sc := defScope s_are_named) (by decide +kernel)) (fun _ _ _ _ _ => (pg_n 4 sc_are_named.nd)) (fun _ _ _ _ _ => pts_nil) (fun _ _ _ _ _ => (pe_ix (ix_tupK (K := K) rfl) (pv 4) pe_int (fun _ _ => rfl))))
    (pss_one (ps_ret (pe_and (pe_cmpR op_eq (pe_callB cr_lenTx rfl T.b_len (by decide +kernel) (pa_cons (pe_callTy (cr_setTx rfl) rfl T.b_set (by decide +kernel) (pa_cons (pv 3) pa_nil)) pa_nil)) (pe_callB call_len rfl T.b_len (by decide +kernel) (pa_cons (pv 3) pa_nil)) (nomark _)) (pe_one (pe_not (pe_callB (cr_any rfl) rfl T.b_any (by decide +kernel) (pa_cons (pe_lc (own := [("name", 5)]) (g := gName 5) (tt := tYes) rfl sc_are_named.nd (pi_list (pv 3)) (blkOk_by (N := ["thing", "most", "barred", "names", "item", "name"]) (sc := defScope s_are_named) (by decide +kernel)) (fun _ _ _ _ _ => (pg_n 5 sc_are_named.nd)) (fun _ _ _ _ _ => pts_nil) (fun _ _ _ _ _ => (pe_cmpR (op_inK (K := K) rfl) (pv 5) (pv 2) (by with_unfolding_all rfl)))) pa_nil)))))))))), ?_⟩
    simp only [st_c, st_n, st_0]
    have hT0 := hT
    obtain ⟨bs, ha, hp⟩ := hT
    have hbl : bs.length = ts.length := pairedLen hp
    have ol := ok.len
    refine ⟨_, rfl, _, _, _, _, true, rfl, .ty _, .base (.tup ha), kit_ty (by decide +kernel), true, rfl, iteF ?_⟩
    refine ⟨_, rfl, _, bs.length, rfl, .inr ⟨_, SqT.of ha, by rw [List.length_map]⟩, _, rfl, _, _, rfl, rfl, _, rfl, ?_⟩
    rw [decide_eq_false (show ¬ (8 : Int) < (bs.length : Int) by omega)]
    refine iteF ?_
    refine ⟨_, rfl, a, rfl, ⟨_, SqT.of ha⟩, fun D hD => ?_⟩
    refine lc_it walk_tup (LcP H D (RB true)) (LcP.zero hD rfl) (fun i H1 _ ⟨_, s1, _⟩ => SqT.of (s1 _ _ ha)) ?_ fun H2 h2 => ?_
    · rintro i x H1 _ hi ⟨acc, s1, hd, hle, e⟩ ⟨rfl, hx⟩
      obtain ⟨c, hc, rfl⟩ := ref_at hx
      obtain ⟨t, ht, v, hv, hk⟩ := pairedAt2 hp hc
      have tm := List.mem_of_getElem? ht
      have hv1 := s1 _ _ hv
      refine ⟨rfl, tyes ?_⟩
      refine ⟨_, rfl, .inr ⟨c, _, rfl, hv1, true, rfl, iteT ?_⟩⟩
      refine ⟨_, rfl, _, _, _, _, rfl, rfl, SqT.of hv1, rfl, t.1, rfl, ok.nm t tm, fun H3 s3 => ⟨true, rfl, iteT ?_⟩⟩
      refine ⟨_, rfl, _, _, _, _, rfl, rfl, SqT.of (s3 _ _ hv1), rfl, t.2, v, rfl, hk.same (s1.trans s3), (ok.kd t tm).1, (ok.kd t tm).2, fun H4 s4 => ?_⟩
      exact putB hD s1 hd hle e (Nat.lt_of_lt_of_le hi (by rw [List.length_map]; exact Nat.le_trans (by omega : bs.length ≤ 3) (by decide))) (s3.trans s4)
    obtain ⟨cs, hq, eb, s3⟩ := finAll (K := K) h2
    refine ⟨D, cs, rfl, hq, ?_⟩
    rw [eb]
    refine ⟨true, rfl, iteF ?_⟩
    have ha3 := s3 _ _ ha
    have hD2 : ∀ D, H2 D = none → True := fun _ _ => trivial
    refine ⟨_, rfl, a, rfl, ⟨_, SqT.of ha3⟩, fun D2 hD2 => ?_⟩
    refine lc_it walk_tup (LcP H2 D2 (fun i acc _ => acc = (ts.take i).map (fun t => V.str t.1))) (LcP.zero hD2 rfl) (fun i H1 _ ⟨_, s1, _⟩ => SqT.of (s1 _ _ ha3)) ?_ fun H5 h5 => ?_
    · rintro i x H1 _ hi ⟨acc, s1, hd, hle, e⟩ ⟨rfl, hx⟩
      obtain ⟨c, hc, rfl⟩ := ref_at hx
      obtain ⟨t, ht, v, hv, hk⟩ := pairedAt2 hp hc
      have hv1 := s1 _ _ (s3 _ _ hv)
      refine ⟨rfl, tyes ?_⟩
      refine ⟨_, rfl, _, _, _, _, rfl, rfl, SqT.of hv1, rfl, ?_⟩
      refine LcP.put hD2 s1 hd hle (Nat.lt_of_lt_of_le hi (by rw [List.length_map]; exact Nat.le_trans (by omega : bs.length ≤ 3) (by decide))) (Same.refl _) ?_
      rw [e]
      exact take_succ_map ht
    obtain ⟨acc, s5, hd5, _, e5⟩ := h5
    rw [List.length_map, hbl, List.take_length] at e5
    have e6 : acc = (ts.map (·.1)).map V.str := by rw [e5, List.map_map]; rfl
    rw [e6] at hd5
    refine ⟨_, rfl, D2, ts.map (·.1), rfl, SqL.of hd5, ok.nd, (by rw [List.length_map]; omega), fun p hp5 => ?_⟩
    have hd6 := same_upd (o := SetS P w p (fun j => decide (j ∈ ts.map (·.1))) (ts.map (·.1)).length) hp5 _ _ hd5
    refine ⟨p, _, _, rfl, upd_same, (by rw [List.length_map]; omega), ?_⟩
    refine ⟨_, rfl, _, (ts.map (·.1)).length, rfl, .inl ⟨_, SqL.of hd6, (List.length_map ..).symm⟩, rfl, _, rfl, ?_⟩
    rw [decide_eq_true (rfl : V.int ((ts.map (·.1)).length : Int) = _)]
    refine iteT ?_
    refine ⟨_, rfl, D2, rfl, ⟨_, SqL.of hd6⟩, fun D3 hD3 => ?_⟩
    have hB3 := same_upd (o := SetS P w p (fun j => decide (j ∈ ts.map (·.1))) (ts.map (·.1)).length) hp5 _ _ (s5 _ _ (s3 _ _ hB))
    refine lc_it walk_list (LcP _ D3 (RB false)) (LcP.zero hD3 rfl) (fun i H1 _ ⟨_, s1, _⟩ => SqL.of (s1 _ _ hd6)) ?_ fun H7 h7 => ?_
    · rintro i x H1 _ hi ⟨acc2, s1, hd, hle, e⟩ ⟨rfl, hx⟩
      rw [List.getElem?_map] at hx
      cases eo : (ts.map (·.1))[i]? with
      | none => rw [eo] at hx; cases hx
      | some z =>
        rw [eo] at hx
        cases (show V.str z = x from Option.some.inj hx)
        refine ⟨rfl, tyes ?_⟩
        refine ⟨_, rfl, _, rfl, b, [], rfl, .inr (SqT.of (s1 _ _ hB3)), rfl, rfl, ?_⟩
        exact putB hD3 s1 hd hle e (Nat.lt_of_lt_of_le hi (by rw [List.length_map, List.length_map]; exact Nat.le_trans ol (by decide))) (Same.refl _)
    obtain ⟨cs7, hq7, eb7, s7⟩ := finAny (K := K) h7
    refine ⟨D3, cs7, rfl, hq7, ?_⟩
    rw [eb7]
    exact ⟨_, rfl, q _ (((s3.trans s5).trans (same_upd hp5)).trans s7)⟩
end
end UC
set_option Elab.async false
set_option linter.all false
set_option maxRecDepth 100000
set_option maxHeartbeats 4000000
/-! Books. -/
namespace UC
open PySem PySem.Spec PyProof.Rows L2
theorem roomH {k : Nat} {A : Around} (r : Room k A) : A.units + 64 < cLine := roomU r
/-- a book as it stands in the heap -/
structure BookAt (K : PySem.W.Frag) (H : Hp) (p lp : Addr) (ts : List (Str × Kd)) : Prop where
  ex : ∃ (dx ta : Addr), H p = some (.ins (He.ga K "Book") dx [("lot", .ref lp), ("tools", .ref ta)]) ∧ ToolsAt H ta ts
theorem BookAt.same {K : PySem.W.Frag} {H H' : Hp} {p lp : Addr} {ts : List (Str × Kd)} (e : Same H H') (h : BookAt K H p lp ts) : BookAt K H' p lp ts := by
  obtain ⟨dx, ta, h1, h2⟩ := h.ex
  exact ⟨dx, ta, e _ _ h1, h2.same e⟩
theorem SameX.same {H H' : Hp} {x : Addr} (e : SameX x H H') {G : Hp} (g : Same G H) (n : G x = none) : Same G H' := fun b o q => e b o (ne_of_none q n) (g b o q)
section
variable {P : Program} {w : World} {K : PySem.W.Frag} {mg : Str → Option Value} {base : Heap}
def sp_Book_init (K : PySem.W.Frag) : Sp := fun vs H Q _ => ∃ (x lp ta dx : Addr) (z : Str) (ms : List Nat) (ts : List (Str × Kd)), vs = [.ref x, .ref lp, .ref ta] ∧ H x = some (.ins (He.ga K "Book") dx []) ∧ LotAt K H lp z ms ∧ ToolsAt H ta ts ∧ ToolsOk ts ∧
  ∀ H', SameX x H H' → BookAt K H' x lp ts → Q .non H'
theorem ToolsAt.keepI {H H' : Hp} {a x : Addr} {ts : List (Str × Kd)} {C dx : Addr} {fs : List (Str × V)} (hx : H x = some (.ins C dx fs)) (e : SameX x H H') (h : ToolsAt H a ts) : ToolsAt H' a ts := by
  have nt : ∀ (p : Addr) (xs : List V), H p = some (.tup xs) → p ≠ x := fun p xs q z => by rw [z, hx] at q; cases q
  have kp : ∀ (k : Kd) (v : V), KdAt H k v → KdAt H' k v := by
    intro k
    induction k with
    | lt n => exact fun v q => q
    | ar a b ia ib =>
      rintro v ⟨p, y, z, h1, h2, h3, h4⟩
      exact ⟨p, y, z, h1, e _ _ (nt _ _ h2) h2, ia _ h3, ib _ h4⟩
  obtain ⟨bs, h1, h2⟩ := h
  exact ⟨bs, e _ _ (nt _ _ h1) h1, Paired.mapP h2 fun _ _ ⟨v, a, b⟩ => ⟨v, e _ _ (nt _ _ a) a, kp _ _ b⟩⟩
theorem sc_Book_init : FnScope ["self", "lot", "tools"] ["self", "lot", "tools"] (defScope s_Book_init) := ⟨rfl, rfl, rfl, by decide +kernel, rfl, by decide +kernel, by decide +kernel⟩
theorem ok_Book_init (T : Txt K mg) : PrM P w K mg base 5 "Book" "__init__" ["self", "lot", "tools"] (sp_Book_init K) := by
  have G_are_named : Pr P w K mg base 4 "are_named" _ _ := ok_are_named T
  refine T.d_Book_init.pr sc_Book_init (fun vs H Q E h => ?_) (fun _ _ _ _ _ _ us hl => match us, hl with | [_, _, _], _ => rfl) (fun f cdv A outer s H vs Q E hr h => ?_)
  · obtain ⟨x, lp, ta, dx, z, ms, ts, rfl, _⟩ := h
    rfl
  · obtain ⟨x, lp, ta, dx, z, ms, ts, rfl, hx, hL, hT, ok, k⟩ := h
    refine ⟨_, (pss_cons (ps_if (pt_not (pt_val (pe_callB call_isiT rfl T.b_isinstance (by decide +kernel) (pa_cons (pv 1) (pa_cons (pe_tup (pa_cons (pe_glob (v := .ref (He.ga K "Lot")) (by rfl) T.g_Lot rfl) (pa_cons (pe_glob (v := .ref (He.ga K "RawLot")) (by rfl) T.g_RawLot rfl) pa_nil))) pa_nil)))))
      (pss_one ps_never)
      pss_nil)
    (pss_cons (ps_if (pt_not (pt_val (pe_callP G_are_named hr (by decide) (pa_cons (pv 2) (pa_cons (pe_cI T.k_MOST_TOOLS) (pa_cons (pe_tup pa_nil) pa_nil))))))
      (pss_one ps_never)
      pss_nil)
    (pss_cons (ps_fld (pv 0) (pv 1) rfl)
    (pss_one (ps_fld (pv 0) (pv 2) rfl))))), ?_⟩
    simp only [st_c, st_n, st_0]
    obtain ⟨dl, mk, lz, l1, l2⟩ := hL.ex
    refine ⟨_, rfl, Nat.le_of_ble_eq_true rfl, fun tp htp => ?_⟩
    have e1 : Same H (upd H tp (.tup [.ref (He.ga K "Lot"), .ref (He.ga K "RawLot")])) := same_upd htp
    refine ⟨_, tp, _, _, _, true, rfl, upd_same, .cons (.own _) (.cons (.own _) .nil), T.o_Lot.ty (e1 _ _ l1), kitAny_cons (kit_own _) (fun z => nomatch z) (fun _ => rfl), true, rfl, iteF ?_⟩
    refine ⟨_, rfl, Nat.le_of_ble_eq_true rfl, fun tq htq => ?_⟩
    have e2 := e1.trans (same_upd (o := .tup []) htq)
    refine ⟨ta, tq, ts, rfl, hT.same e2, ok, upd_same, fun H2 s2 => ⟨true, rfl, iteF ?_⟩⟩
    have e3 := e2.trans s2
    refine ⟨_, rfl, _, rfl, x, _, _, _, rfl, e3 _ _ hx, T.o_Book.cl, T.n_Book_lot, (Nat.le_of_ble_eq_true rfl), ?_⟩
    refine ⟨_, rfl, _, rfl, x, _, _, _, rfl, upd_same, T.o_Book.cl, T.n_Book_tools, (Nat.le_of_ble_eq_true rfl), ?_⟩
    have sx : SameX x H (upd (upd H2 x (.ins (He.ga K "Book") dx (putF "lot" (.ref lp) []))) x (.ins (He.ga K "Book") dx (putF "tools" (.ref ta) (putF "lot" (.ref lp) [])))) := fun b o nb q => by
      rw [upd_ne nb, upd_ne nb]
      exact e3 _ _ q
    exact k _ sx ⟨dx, ta, upd_same, hT.keepI hx sx⟩
/-! check_let -/
def sp_check_let (K : PySem.W.Frag) : Sp := fun vs H Q _ => ∃ (p lp : Addr) (z : Str) (ms : List Nat) (ts : List (Str × Kd)), vs = [.ref p] ∧ BookAt K H p lp ts ∧ LotAt K H lp z ms ∧ (z = "once" → ts = []) ∧ ts.length ≤ 3 ∧ ∀ H', Same H H' → Q .non H'
theorem sc_check_let : FnScope ["book"] ["book"] (defScope s_check_let) := ⟨rfl, rfl, rfl, by decide +kernel, rfl, by decide +kernel, by decide +kernel⟩
theorem ok_check_let (T : Txt K mg) : Pr P w K mg base 1 "check_let" ["book"] (sp_check_let K) := by
  refine T.d_check_let.pr sc_check_let (fun vs H Q E h => ?_) (fun _ _ _ _ _ _ us hl => match us, hl with | [_], _ => rfl) (fun f cdv A outer s H vs Q E hr h => ?_)
  · obtain ⟨p, lp, z, ms, ts, rfl, _⟩ := h
    rfl
  · obtain ⟨p, lp, z, ms, ts, rfl, hB, hL, ho, hl, k⟩ := h
    obtain ⟨dx, ta, b1, bs, t1, t2⟩ := hB.ex
    obtain ⟨dl, mk, lz, l1, l2⟩ := hL.ex
    have hbl : bs.length = ts.length := pairedLen t2
    refine ⟨_, (pss_one (ps_if (PW.pt (pw_or (pt_not (pt_val (pe_callB call_isi rfl T.b_isinstance (by decide +kernel) (pa_cons (pe_fld (pv 0) rfl) (pa_cons (pe_glob (v := .ref (He.ga K "Lot")) (by rfl) T.g_Lot rfl) pa_nil))))) (pw_or1 (PW.pt (pw_and (pt_cmpR op_eq (pe_fld (pe_fld (pv 0) rfl) rfl) (pe_cS T.k_ONCE) (nomark _)) (pw_and1 (pt_cmpR op_gt (pe_callB call_len rfl T.b_len (by decide +kernel) (pa_cons (pe_fld (pv 0) rfl) pa_nil)) pe_int (nomark _))))))))
      (pss_one ps_never)
      pss_nil)), ?_⟩
    simp only [st_c, st_n, st_0]
    refine ⟨_, rfl, p, _, dx, _, _, rfl, b1, T.o_Book.cl, T.n_Book_lot, rfl, _, _, _, _, true, rfl, .own _, T.o_Lot.ty l1, kit_own _, true, rfl, iteF ?_⟩
    refine ⟨_, rfl, p, _, dx, _, _, rfl, b1, T.o_Book.cl, T.n_Book_lot, rfl, lp, _, dl, _, _, rfl, l1, T.o_Lot.cl, T.n_Lot_word, rfl, rfl, _, rfl, ?_⟩
    rw [dec_str]
    by_cases hz : z = "once"
    · rw [hz, beq_self_eq_true]
      refine iteT ⟨_, rfl, p, _, dx, _, _, rfl, b1, T.o_Book.cl, T.n_Book_tools, rfl, _, bs.length, rfl, .inr ⟨_, SqT.of t1, (List.length_map ..).symm⟩, _, _, rfl, rfl, _, rfl, ?_⟩
      rw [hbl, ho hz]
      exact iteF (k H (Same.refl _))
    · rw [show (z == ("once" : Str)) = false from beq_eq_false_iff_ne.mpr hz]
      exact iteF (iteF (k H (Same.refl _)))
def sp_check_task (K : PySem.W.Frag) : Sp := fun vs H Q _ => ∃ (p lp : Addr) (z : Str) (ms : List Nat) (ts : List (Str × Kd)) (k : Kd) (v : V), vs = [.ref p, v] ∧ BookAt K H p lp ts ∧ LotAt K H lp z ms ∧ (z = "once" → ts = []) ∧ ts.length ≤ 3 ∧ KdAt H k v ∧ k.lets 26 ∧ k.size ≤ 1000 ∧ ∀ H', Same H H' → Q .non H'
theorem sc_check_task : FnScope ["book", "kind"] ["book", "kind"] (defScope s_check_task) := ⟨rfl, rfl, rfl, by decide +kernel, rfl, by decide +kernel, by decide +kernel⟩
theorem ok_check_task (T : Txt K mg) : Pr P w K mg base 5 "check_task" ["book", "kind"] (sp_check_task K) := by
  have G_check_let : Pr P w K mg base 1 "check_let" _ _ := ok_check_let T
  have G_check_kind : Pr P w K mg base 4 "check_kind" _ _ := ok_check_kind T
  refine T.d_check_task.pr sc_check_task (fun vs H Q E h => ?_) (fun _ _ _ _ _ _ us hl => match us, hl with | [_, _], _ => rfl) (fun f cdv A outer s H vs Q E hr h => ?_)
  · obtain ⟨p, lp, z, ms, ts, k, v, rfl, _⟩ := h
    rfl
  · obtain ⟨p, lp, z, ms, ts, k, v, rfl, hB, hL, ho, hl, hk, hb, hz, q⟩ := h
    refine ⟨_, (pss_cons (ps_expr (pe_callP G_check_let hr (by decide) (pa_cons (pv 0) pa_nil)))
    (pss_one (ps_expr (pe_callP G_check_kind hr (by decide) (pa_cons (pv 1) pa_nil))))), ?_⟩
    simp only [st_c, st_n, st_0]
    refine ⟨_, rfl, p, lp, z, ms, ts, rfl, hB, hL, ho, hl, fun H1 s1 => ?_⟩
    exact ⟨_, rfl, k, v, rfl, hk.same s1, hb, hz, fun H2 s2 => q H2 (s1.trans s2)⟩
end
end UC
set_option Elab.async false
set_option linter.all false
set_option maxRecDepth 100000
set_option maxHeartbeats 8000000
/-! Joinings: are_stands, makers_of, is_joining. -/
namespace UC
open PySem PySem.Spec PyProof.Rows L2
theorem nodup_len : ∀ (n : Nat) (ks : List Nat), ks.Nodup → (∀ x ∈ ks, x < n) → ks.length ≤ n
  | 0, [], _, _ => Nat.le_refl _
  | 0, k :: ks, _, h => absurd (h k List.mem_cons_self) (Nat.not_lt_zero _)
  | n + 1, ks, nd, h => by
    by_cases e : n ∈ ks
    · have ih := nodup_len n (ks.erase n) (nd.erase n) fun x hx => by
        have a := h x (List.mem_of_mem_erase hx)
        have b : x ≠ n := fun z => by
          rw [z] at hx
          exact (List.Nodup.not_mem_erase nd) hx
        omega
      rw [List.length_erase_of_mem e] at ih
      omega
    · have ih := nodup_len n ks nd fun x hx => by
        have a := h x hx
        have b : x ≠ n := fun z => e (z ▸ hx)
        omega
      omega
theorem nV_last (ws : List Nat) (x : Nat) : ((ws ++ [x]).map nV)[((ws ++ [x]).map nV).length - 1]? = some (nV x) := by simp
theorem nV_drop (ws : List Nat) (x : Nat) : ((ws ++ [x]).map nV).dropLast = ws.map nV := by simp
/-- a table that the code made: a tuple of tuples -/
def TblG (H : Hp) (a : Addr) (J : List (List Nat)) : Prop := ∃ bs : List Addr, H a = some (.tup (bs.map V.ref)) ∧ Paired (fun b (r : List Nat) => H b = some (.tup (r.map nV))) bs J
theorem TblG.t {K : PySem.W.Frag} {H : Hp} {a : Addr} {J : List (List Nat)} (h : TblG H a J) : TblT K H a J := by
  obtain ⟨bs, h1, h2⟩ := h
  exact ⟨bs, SqT.of h1, Paired.mapP h2 fun _ _ q => SqT.of q⟩
theorem TblG.same {H H' : Hp} {a : Addr} {J : List (List Nat)} (e : Same H H') (h : TblG H a J) : TblG H' a J := by
  obtain ⟨bs, h1, h2⟩ := h
  exact ⟨bs, e _ _ h1, Paired.mapP h2 fun _ _ q => e _ _ q⟩
theorem TblG.row {H : Hp} {a : Addr} {J : List (List Nat)} {i : Nat} {r : List Nat} (h : TblG H a J) (e : J[i]? = some r) : ∃ (xs : List V) (b : Addr), H a = some (.tup xs) ∧ atI xs (i : Int) = some (.ref b) ∧ H b = some (.tup (r.map nV)) := by
  obtain ⟨bs, h1, h2⟩ := h
  obtain ⟨b, e1, q⟩ := pairedAt h2 e
  exact ⟨_, b, h1, at_ref e1, q⟩
section
variable {P : Program} {w : World} {K : PySem.W.Frag} {mg : Str → Option Value} {base : Heap}
def sp_are_stands : Sp := fun vs H Q _ => ∃ (a : Addr) (ns : List Nat) (n : Nat), vs = [.ref a, nV n] ∧ H a = some (.tup (ns.map nV)) ∧ ns.length ≤ 1000 ∧ (∀ x ∈ ns, x < n) ∧ ∀ H', Same H H' → Q (.bl true) H'
theorem sc_are_stands : FnScope ["thing", "many", "item"] ["thing", "many"] (defScope s_are_stands) := ⟨rfl, rfl, rfl, by decide +kernel, rfl, by decide +kernel, by decide +kernel⟩
theorem ok_are_stands (T : Txt K mg) : Pr P w K mg base 2 "are_stands" ["thing", "many"] sp_are_stands := by
  have G_is_integer : Pr P w K mg base 1 "is_integer" _ _ := ok_is_integer T
  refine T.d_are_stands.pr sc_are_stands (fun vs H Q E h => ?_) (fun _ _ _ _ _ _ us hl => match us, hl with | [_, _], _ => rfl) (fun f cdv A outer s H vs Q E hr h => ?_)
  · obtain ⟨a, ns, n, rfl, _⟩ := h
    rfl
  · obtain ⟨a, ns, n, rfl, ha, hl, hb, q⟩ := h
    refine ⟨_, (pss_one (ps_ret (pe_and (pe_callB call_isi rfl T.b_isinstance (by decide +kernel) (pa_cons (pv 0) (pa_cons (pe_bltn (v := .ty "tuple") (by rfl) T.b_tuple (by decide +kernel) rfl) pa_nil))) (pe_one (pe_callB (cr_all rfl) rfl T.b_all (by decide +kernel) (pa_cons (pe_lc (own := [("item", 2)]) (g := gName 2) (tt := tYes) rfl sc_are_stands.nd (pi_tup (pv 0)) (blkOk_by (N := ["thing", "many", "item"]) (sc := defScope s_are_stands) (by decide +kernel)) (fun _ _ _ _ _ => (pg_n 2 sc_are_stands.nd)) (fun _ _ _ _ _ => pts_nil) (fun _ _ _ _ _ => (pe_and (pe_callP G_is_integer hr (by decide) (pa_cons (pv 2) pa_nil)) (pe_one (pe_chain op_le op_lt pe_int (pv 2) (pv 1)))))) pa_nil)))))), ?_⟩
    simp only [st_c, st_n, st_0]
    refine ⟨_, rfl, _, _, _, _, true, rfl, .ty _, .base (.tup ha), kit_ty (by decide +kernel), true, rfl, iteT ?_⟩
    refine ⟨_, rfl, a, rfl, ⟨_, SqT.of ha⟩, fun D hD => ?_⟩
    refine lc_it walk_tup (LcP H D (RB true)) (LcP.zero hD rfl) (fun i H1 _ ⟨_, s1, _⟩ => SqT.of (s1 _ _ ha)) ?_ fun H2 h2 => ?_
    · rintro i x H1 _ hi ⟨acc, s1, hd, hle, e⟩ ⟨rfl, hx⟩
      obtain ⟨m, hm, rfl⟩ := nV_at hx
      have hm1 := hb m (List.mem_of_getElem? hm)
      refine ⟨rfl, tyes ?_⟩
      refine ⟨_, rfl, m, rfl, true, rfl, iteT ⟨_, rfl, _, _, rfl, rfl, _, rfl, ?_⟩⟩
      rw [decide_eq_true (show (0 : Int) ≤ (m : Int) by omega)]
      refine iteT ⟨_, rfl, _, _, rfl, rfl, ?_⟩
      dsimp only
      rw [decide_eq_true (show (m : Int) < (n : Int) by omega)]
      exact putB hD s1 hd hle e (Nat.lt_of_lt_of_le hi (by rw [List.length_map]; exact Nat.le_trans hl (by decide))) (Same.refl _)
    obtain ⟨bs, hq, eb, s3⟩ := finAll (K := K) h2
    exact ⟨D, bs, rfl, hq, qb (q _ s3) eb.symm⟩
/-! makers_of: some stands -/
def sp_makers_of (K : PySem.W.Frag) : Sp := fun vs H Q _ => ∃ (a : Addr) (J : List (List Nat)), vs = [.ref a] ∧ TblT K H a J ∧ Mon J ∧ J.length ≤ 1000 ∧ ∀ (H' : Hp) (p : Addr) (fs : List Nat), Same H H' → H' p = some (.lst (fs.map nV)) → (∀ x ∈ fs, x < J.length) → Q (.ref p) H'
structure MkSt (H : Hp) (l d wl : Addr) (n : Nat) (fs ks ws : List Nat) (H' : Hp) : Prop where
  s : Same H H'
  l : H' l = some (.lst (fs.map nV))
  d : H' d = some (.dK (kd ks))
  w : H' wl = some (.lst (ws.map nV))
  nd : ks.Nodup
  kl : ∀ x ∈ ks, x < n
  wb : ∀ x ∈ ws, x < n
def mkM (n : Nat) (ks ws : List Nat) : Nat := 2 * (n - ks.length) + ws.length
/-- a stand that is new -/
theorem MkSt.put {H H' : Hp} {l d wl : Addr} {n : Nat} {fs ks ws : List Nat} {x : Nat} (h : MkSt H l d wl n fs ks ws H') (l0 : H l = none) (d0 : H d = none) (w0 : H wl = none) (ld : l ≠ d) (wll : wl ≠ l) (wd : wl ≠ d) (hx : x < n) (new : x ∉ ks) :
    MkSt H l d wl n fs (insN ks x) (ws ++ [x]) (upd (upd H' d (.dK (kd (insN ks x)))) wl (.lst (ws.map nV ++ [nV x]))) ∧ mkM n (insN ks x) (ws ++ [x]) + 1 ≤ mkM n ks ws ∧ ks.length < n := by
  have e : insN ks x = ks ++ [x] := if_neg new
  have nd2 := insN_nodup (k := x) h.nd
  have kl2 : ∀ y ∈ insN ks x, y < n := fun y hy => (mem_insN.mp hy).elim (h.kl y) fun z => z ▸ hx
  have len := nodup_len n _ nd2 kl2
  rw [e, List.length_append, List.length_singleton] at len
  refine ⟨⟨same_put w0 (same_put d0 h.s), ?_, ?_, ?_, nd2, kl2, ?_⟩, ?_, by omega⟩
  · rw [upd_ne wll.symm, upd_ne ld]
    exact h.l
  · rw [upd_ne wd.symm, upd_same]
  · rw [upd_same, List.map_append]
    rfl
  · intro y hy
    rcases List.mem_append.mp hy with q | q
    · exact h.wb y q
    · rw [List.mem_singleton.mp q]
      exact hx
  · unfold mkM
    rw [e, List.length_append, List.length_append, List.length_singleton]
    omega
theorem kd_keys (ks : List Nat) : ((kd ks).map fun kv => kV kv.1) = ks.map nV := by
  unfold kd
  rw [List.map_map]
  rfl
theorem sc_makers_of : FnScope ["joining", "found", "known", "stand", "waiting", "here", "maker", "later"] ["joining"] (defScope s_makers_of) := ⟨rfl, rfl, rfl, by decide +kernel, rfl, by decide +kernel, by decide +kernel⟩
theorem ok_makers_of (T : Txt K mg) : Pr P w K mg base 1 "makers_of" ["joining"] (sp_makers_of K) := by
  refine T.d_makers_of.pr sc_makers_of (fun vs H Q E h => ?_) (fun _ _ _ _ _ _ us hl => match us, hl with | [_], _ => rfl) (fun f cdv A outer s H vs Q E hr h => ?_)
  · obtain ⟨a, J, rfl, _⟩ := h
    rfl
  · obtain ⟨a, J, rfl, hJ, M, hn, k⟩ := h
    have hu := hu_of hr
    refine ⟨_, (pss_cons (ps_s 1 sc_makers_of.nd (pe_lst pa_nil))
    (pss_cons (ps_s 2 sc_makers_of.nd (pe_disp (pps_cons pe_int pe_bl pps_nil) (by rfl) (by rfl) (fun z => by cases z) (by decide)))
    (pss_cons (ps_for PassesOwn.never rfl (pi_range1 rfl T.b_range (pa_cons (pe_callB call_len rfl T.b_len (by decide +kernel) (pa_cons (pv 0) pa_nil)) pa_nil)) (pg_n 3 sc_makers_of.nd)
      (pss_one (ps_if (pt_cmp (pc_dnotin hu (pv 3) (pv 2)))
        (pss_cons (ps_expr (pe_bm PySem.F.plainAttrs_list PySem.F.slot_list_append PySem.F.type_list_append mt_append (pv 1) (pa_cons (pv 3) pa_nil)))
        (pss_cons (ps_s 4 sc_makers_of.nd (pe_op op_cat (pe_callTy (call_list_dK rfl) rfl T.b_list (by decide +kernel) (pa_cons (pv 2) pa_nil)) (pe_lst (pa_cons (pv 3) pa_nil))))
        (pss_cons (ps_dput hu (pv 2) (pv 3) pe_bl rfl)
        (pss_one (ps_while PassesOwn.never (pt_cmpR op_gt (pe_callB call_len rfl T.b_len (by decide +kernel) (pa_cons (pv 4) pa_nil)) pe_int (nomark _))
          (pss_cons (ps_s 5 sc_makers_of.nd (pe_bm0 PySem.F.plainAttrs_list PySem.F.slot_list_pop PySem.F.type_list_pop mt_pop (pv 4)))
          (pss_one (ps_for PassesOwn.never rfl (pi_list (pv 1)) (pg_n 6 sc_makers_of.nd)
            (pss_cons (ps_s 7 sc_makers_of.nd (pe_ix ix_tup (pe_ix ix_tup (pv 0) (pv 5) (fun _ _ => rfl)) (pv 6) (fun _ _ => rfl)))
            (pss_one (ps_if (pt_cmp (pc_dnotin hu (pv 7) (pv 2)))
              (pss_cons (ps_dput hu (pv 2) (pv 7) pe_bl rfl)
              (pss_one (ps_expr (pe_bm PySem.F.plainAttrs_list PySem.F.slot_list_append PySem.F.type_list_append mt_append (pv 4) (pa_cons (pv 7) pa_nil)))))
              pss_nil)))))))))))
        pss_nil)))
    (pss_one (ps_ret (pv 1)))))), ?_⟩
    simp only [st_c, st_n, st_0]
    refine ⟨Nat.zero_le _, fun l l0 => ?_⟩
    intro d hd
    have d0 : H d = none := (same_upd l0).free hd
    have ld : l ≠ d := ne_of_none upd_same hd
    refine ⟨upd_same, [(kn 0, V.bl true)], rfl, Nat.le_of_ble_eq_true rfl, ?_⟩
    have ed : mergeK [] [(kn 0, V.bl true)] = kd [0] := rfl
    rw [ed]
    have s0 : Same H (upd (upd (upd H l (.lst [])) d (.dK [])) d (.dK (kd [0]))) := same_put d0 (same_put d0 (same_upd l0))
    obtain ⟨bs, hbs, hrows⟩ := id hJ
    have hbl : bs.length = J.length := pairedLen hrows
    refine ⟨_, rfl, _, J.length, rfl, .inr ⟨_, sameT s0 hbs, by rw [List.length_map, hbl]⟩, _, rfl, by omega, by omega, ?_⟩
    refine for_range (lo := 0) (n := J.length) (fun i σ H2 => ∃ v3 v4 v5 v6 v7 fs ks, σ = [some (.ref a), some (.ref l), some (.ref d), v3, v4, v5, v6, v7] ∧ Same H H2 ∧ H2 l = some (.lst (fs.map nV)) ∧ H2 d = some (.dK (kd ks)) ∧ ks.Nodup ∧ (∀ x ∈ ks, x < J.length) ∧ (∀ x ∈ fs, x < J.length) ∧ fs.length ≤ i)
      ⟨_, _, _, _, _, [], [0], rfl, s0, by rw [upd_ne ld, upd_ne ld, upd_same]; rfl, upd_same, by decide, fun x hx => by rw [List.mem_singleton.mp hx]; exact M.pos, fun x hx => (List.not_mem_nil hx).elim, Nat.le_refl _⟩ ?_ ?_
    · rintro i σ H2 hi ⟨v3, v4, v5, v6, v7, fs, ks, rfl, s2, h1, h2, nd, kl, fl, fn⟩
      have ei : (0 : Int) + (i : Int) = (i : Int) := Int.zero_add _
      rw [ei]
      refine ⟨_, rfl, _, rfl, d, _, rfl, DGet.k (k := kn i) h2, _, rfl, ?_⟩
      rw [kd_some]
      by_cases hk : i ∈ ks
      · rw [decide_eq_true hk]
        exact iteF ⟨_, _, _, _, _, fs, ks, rfl, s2, h1, h2, nd, kl, fl, Nat.le_succ_of_le fn⟩
      rw [decide_eq_false hk]
      refine iteT ?_
      refine ⟨_, rfl, .inl ⟨rfl, _, SqL.of h1⟩, _, rfl, l, _, _, rfl, rfl, h1, by rw [List.length_map]; exact Nat.lt_of_le_of_lt (Nat.le_trans fn (Nat.le_of_lt hi)) (Nat.lt_of_le_of_lt hn (by decide)), ?_⟩
      have kz := nodup_len _ _ nd kl
      have hl2 : (upd H2 l (.lst (fs.map nV ++ [nV i]))) l = some (.lst ((fs ++ [i]).map nV)) := by
        rw [upd_same, List.map_append]
        rfl
      have hd2 : (upd H2 l (.lst (fs.map nV ++ [nV i]))) d = some (.dK (kd ks)) := by
        rw [upd_ne ld.symm]
        exact h2
      have s3 : Same H (upd H2 l (.lst (fs.map nV ++ [nV i]))) := same_put l0 s2
      generalize upd H2 l (.lst (fs.map nV ++ [nV i])) = H3 at hl2 hd2 s3 ⊢
      have fl2 : ∀ x ∈ fs ++ [i], x < J.length := fun x hx => by
        rcases List.mem_append.mp hx with q | q
        · exact fl x q
        · rw [List.mem_singleton.mp q]; exact hi
      refine ⟨_, rfl, d, kd ks, rfl, hd2, fun q1 hq1 => ?_⟩
      rw [kd_keys]
      refine ⟨_, rfl, Nat.le_of_ble_eq_true rfl, fun q2 hq2 => ?_⟩
      have t2 := same_upd (o := .lst [nV i]) hq2
      refine ⟨q1, q2, _, _, rfl, rfl, t2 _ _ upd_same, upd_same, by rw [List.length_map]; exact Nat.le_trans (Nat.add_le_add_right (Nat.le_trans kz hn) 1) (by decide), fun wl hwl => ?_⟩
      have t3 : Same H3 (upd (upd (upd H3 q1 (.lst (ks.map nV))) q2 (.lst [nV i])) wl (.lst (ks.map nV ++ [nV i]))) := ((same_upd hq1).trans t2).trans (same_upd hwl)
      have w0 : H wl = none := (s3.trans ((same_upd hq1).trans t2)).free hwl
      have wll : wl ≠ l := (ne_of_none (((same_upd hq1).trans t2) _ _ hl2) hwl).symm
      have wd : wl ≠ d := (ne_of_none (((same_upd hq1).trans t2) _ _ hd2) hwl).symm
      have hw4 : (upd (upd (upd H3 q1 (.lst (ks.map nV))) q2 (.lst [nV i])) wl (.lst (ks.map nV ++ [nV i]))) wl = some (.lst ((ks ++ [i]).map nV)) := by
        rw [upd_same, List.map_append]
        rfl
      generalize upd (upd (upd H3 q1 (.lst (ks.map nV))) q2 (.lst [nV i])) wl (.lst (ks.map nV ++ [nV i])) = H4 at t3 hw4 ⊢
      have hd4 := t3 _ _ hd2
      refine ⟨_, rfl, _, rfl, d, _, rfl, DPut.k (k := kn i) hd4 (by rw [kd_len]; exact Nat.lt_of_le_of_lt (Nat.le_trans kz hn) (by decide)), ?_⟩
      rw [kd_put]
      have st0 : MkSt H l d wl J.length (fs ++ [i]) (insN ks i) (ks ++ [i]) (upd H4 d (.dK (kd (insN ks i)))) := by
        refine ⟨same_put d0 (s3.trans t3), ?_, upd_same, ?_, insN_nodup nd, fun x hx => (mem_insN.mp hx).elim (kl x) fun z => z ▸ hi, fun x hx => ?_⟩
        · rw [upd_ne ld]
          exact t3 _ _ hl2
        · rw [upd_ne wd]
          exact hw4
        · rcases List.mem_append.mp hx with q | q
          · exact kl x q
          · rw [List.mem_singleton.mp q]; exact hi
      generalize upd H4 d (.dK (kd (insN ks i))) = H5 at st0 ⊢
      refine ⟨fun m σ H6 => ∃ v5 v6 v7 ks ws, σ = [some (.ref a), some (.ref l), some (.ref d), some (nV i), some (.ref wl), v5, v6, v7] ∧ MkSt H l d wl J.length (fs ++ [i]) ks ws H6 ∧ m = mkM J.length ks ws ∧ m ≤ 4 * J.length, ⟨_, _, _, _, _, _, rfl, st0, rfl, by unfold mkM; rw [List.length_append, List.length_singleton]; omega⟩, ?_⟩
      rintro m σ H6 ⟨v5, v6, v7, ks, ws, rfl, st, rfl, m4⟩
      refine ⟨_, rfl, _, ws.length, rfl, .inl ⟨_, SqL.of st.w, (List.length_map ..).symm⟩, _, _, rfl, rfl, _, rfl, ?_⟩
      rcases List.eq_nil_or_concat ws with rfl | ⟨ws, x, rfl⟩
      · exact iteF ⟨_, _, _, _, _, fs ++ [i], ks, rfl, st.s, st.l, st.d, st.nd, st.kl, fl2, by rw [List.length_append]; exact Nat.succ_le_succ fn⟩
      rw [List.concat_eq_append] at *
      rw [decide_eq_true (show (0 : Int) < ((ws ++ [x]).length : Int) by simp)]
      refine iteT ⟨fun σ' H7 => ∃ m', m' < mkM J.length ks (ws ++ [x]) ∧ ∃ v5 v6 v7 ks ws, σ' = [some (.ref a), some (.ref l), some (.ref d), some (nV i), some (.ref wl), v5, v6, v7] ∧ MkSt H l d wl J.length (fs ++ [i]) ks ws H7 ∧ m' = mkM J.length ks ws ∧ m' ≤ 4 * J.length, fun σ' H7 h => h, ?_⟩
      refine ⟨_, rfl, .inl ⟨rfl, _, SqL.of st.w⟩, wl, _, nV x, rfl, rfl, st.w, nV_last ws x, ?_⟩
      rw [nV_drop]
      have st1 : MkSt H l d wl J.length (fs ++ [i]) ks ws (upd H6 wl (.lst (ws.map nV))) := by
        refine ⟨same_put w0 st.s, ?_, ?_, upd_same, st.nd, st.kl, fun y hy => st.wb y (List.mem_append_left _ hy)⟩
        · rw [upd_ne wll.symm]; exact st.l
        · rw [upd_ne wd.symm]; exact st.d
      have hx : x < J.length := st.wb x (by simp)
      have mlt : mkM J.length ks ws < mkM J.length ks (ws ++ [x]) := by
        unfold mkM
        rw [List.length_append, List.length_singleton]
        omega
      generalize upd H6 wl (.lst (ws.map nV)) = H7 at st1 ⊢
      refine ⟨_, rfl, l, rfl, ⟨_, SqL.of st1.l⟩, ?_⟩
      refine for_it walk_list (fun j σ H8 => ∃ v6 v7 ks2 ws2, σ = [some (.ref a), some (.ref l), some (.ref d), some (nV i), some (.ref wl), some (nV x), v6, v7] ∧ MkSt H l d wl J.length (fs ++ [i]) ks2 ws2 H8 ∧ mkM J.length ks2 ws2 ≤ mkM J.length ks ws) ⟨_, _, ks, ws, rfl, st1, Nat.le_refl _⟩ (fun j σ H8 _ ⟨_, _, _, _, _, q, _⟩ => SqL.of q.l) ?_ ?_
      · rintro j y σ _ H8 hj ⟨v6, v7, ks2, ws2, rfl, st2, hm⟩ ⟨rfl, hy⟩
        obtain ⟨g, hg, rfl⟩ := nV_at hy
        have gl : g < J.length := fl2 g (List.mem_of_getElem? hg)
        obtain ⟨r, e1, e2⟩ := M.at_row hx gl
        obtain ⟨xs, b, g1, g2, g3⟩ := (hJ.same st2.s).row e1
        refine ⟨_, rfl, _, rfl, _, _, _, _, rfl, rfl, g1, g2, _, rfl, _, _, _, _, rfl, rfl, g3, at_nV e2, ?_⟩
        refine ⟨_, rfl, _, rfl, d, _, rfl, DGet.k (k := kn (jn J x g)) st2.d, _, rfl, ?_⟩
        rw [kd_some]
        by_cases hk2 : jn J x g ∈ ks2
        · rw [decide_eq_true hk2]
          exact iteF ⟨_, _, ks2, ws2, rfl, st2, hm⟩
        rw [decide_eq_false hk2]
        obtain ⟨st3, lt3, kn3⟩ := st2.put l0 d0 w0 ld wll wd (M.lt _ _ hx gl) hk2
        refine iteT ?_
        refine ⟨_, rfl, _, rfl, d, _, rfl, DPut.k (k := kn (jn J x g)) st2.d (by rw [kd_len]; exact Nat.lt_of_lt_of_le kn3 (Nat.le_trans hn (by decide))), ?_⟩
        rw [kd_put]
        have hw8 : (upd H8 d (.dK (kd (insN ks2 (jn J x g))))) wl = some (.lst (ws2.map nV)) := by
          rw [upd_ne wd]
          exact st2.w
        have hws : ws2.length < sizeLine := by
          have a1 : ws2.length ≤ mkM J.length ks2 ws2 := Nat.le_add_left _ _
          exact Nat.lt_of_le_of_lt (show ws2.length ≤ 4000 by omega) (by decide)
        refine ⟨_, rfl, .inl ⟨rfl, _, SqL.of hw8⟩, _, rfl, wl, _, _, rfl, rfl, hw8, by rw [List.length_map]; exact hws, ?_⟩
        exact ⟨_, _, _, _, rfl, st3, by omega⟩
      · rintro σ H8 ⟨v6, v7, ks2, ws2, rfl, st2, hm⟩
        exact ⟨_, by omega, _, _, _, ks2, ws2, rfl, st2, rfl, by omega⟩
    · rintro σ H2 ⟨v3, v4, v5, v6, v7, fs, ks, rfl, s2, h1, h2, nd, kl, fl, fn⟩
      exact ⟨_, rfl, k H2 l fs s2 h1 fl⟩
/-! is_joining: True at a table of joined stands -/
def sp_is_joining : Sp := fun vs H Q _ => ∃ (a : Addr) (J : List (List Nat)), vs = [.ref a] ∧ TblG H a J ∧ Mon J ∧ J.length ≤ 200 ∧ ∀ H', Same H H' → Q (.bl true) H'
theorem Mon.row0 {J : List (List Nat)} (M : Mon J) {r : List Nat} (h : J[0]? = some r) : r = List.range J.length := by
  have hl : r.length = J.length := M.row r (List.mem_of_getElem? h)
  refine List.ext_getElem? fun v => ?_
  by_cases hv : v < J.length
  · obtain ⟨r2, e1, e2⟩ := M.at_row M.pos hv
    rw [h] at e1
    cases e1
    rw [e2, M.id v hv, List.getElem?_range hv]
  · rw [List.getElem?_eq_none (by omega), List.getElem?_eq_none (by simp; omega)]
theorem rgV_nat (n : Nat) : rgV 0 (n : Int) = (List.range n).map nV := by
  unfold rgV
  have e : ((n : Int) - 0).toNat = n := by omega
  rw [e]
  refine List.map_congr_left fun i _ => ?_
  rw [Int.zero_add]
theorem rows_lt {J : List (List Nat)} (M : Mon J) {r : List Nat} (h : r ∈ J) : ∀ x ∈ r, x < J.length := by
  intro x hx
  obtain ⟨u, hu, rfl⟩ := List.getElem_of_mem h
  obtain ⟨v, hv, rfl⟩ := List.getElem_of_mem hx
  have hl := M.row _ h
  obtain ⟨r2, e1, e2⟩ := M.at_row hu (show v < J.length by omega)
  rw [List.getElem?_eq_getElem hu] at e1
  have e1 := Option.some.inj e1
  subst e1
  rw [List.getElem?_eq_getElem hv] at e2
  rw [Option.some.inj e2]
  exact M.lt _ _ hu (by omega)
theorem sc_is_joining : FnScope ["thing", "many", "one", "maker", "row", "with_maker", "other"] ["thing"] (defScope s_is_joining) := ⟨rfl, rfl, rfl, by decide +kernel, rfl, by decide +kernel, by decide +kernel⟩
theorem ok_is_joining (T : Txt K mg) : Pr P w K mg base 3 "is_joining" ["thing"] sp_is_joining := by
  have G_are_stands : Pr P w K mg base 2 "are_stands" _ _ := ok_are_stands T
  have G_makers_of : Pr P w K mg base 1 "makers_of" _ _ := ok_makers_of T
  refine T.d_is_joining.pr sc_is_joining (fun vs H Q E h => ?_) (fun _ _ _ _ _ _ us hl => match us, hl with | [_], _ => rfl) (fun f cdv A outer s H vs Q E hr h => ?_)
  · obtain ⟨a, J, rfl, _⟩ := h
    rfl
  · obtain ⟨a, J, rfl, hJ, M, hn, k⟩ := h
    have hu64 := roomU hr
    refine ⟨_, (pss_cons (ps_if (PW.pt (pw_or (pt_not (pt_val (pe_callB call_isi rfl T.b_isinstance (by decide +kernel) (pa_cons (pv 0) (pa_cons (pe_bltn (v := .ty "tuple") (by rfl) T.b_tuple (by decide +kernel) rfl) pa_nil))))) (pw_or1 (pt_not (pt_chain op_le op_le pe_int (pe_callB call_len rfl T.b_len (by decide +kernel) (pa_cons (pv 0) pa_nil)) (pe_cI T.k_MOST_STANDS))))))
      (pss_one (ps_ret pe_bl))
      pss_nil)
    (pss_cons (ps_s 1 sc_is_joining.nd (pe_callB call_len rfl T.b_len (by decide +kernel) (pa_cons (pv 0) pa_nil)))
    (pss_cons (ps_if (PW.pt (pw_or (pt_not (pt_val (pe_callB (cr_all rfl) rfl T.b_all (by decide +kernel) (pa_cons (pe_lc (own := [("row", 4)]) (g := gName 4) (tt := tYes) rfl sc_is_joining.nd (pi_tup (pv 0)) (blkOk_by (N := ["thing", "many", "one", "maker", "row", "with_maker", "other"]) (sc := defScope s_is_joining) (by decide +kernel)) (fun _ _ _ _ _ => (pg_n 4 sc_is_joining.nd)) (fun _ _ _ _ _ => pts_nil) (fun _ _ _ _ _ => (pe_and (pe_callP G_are_stands hr (by decide) (pa_cons (pv 4) (pa_cons (pv 1) pa_nil))) (pe_one (pe_cmpR op_eq (pe_callB (call_lenK (K := K) (by rfl)) (by rfl) T.b_len (by decide +kernel) (pa_cons (pv 4) pa_nil)) (pv 1) (nomark _)))))) pa_nil)))) (pw_or1 (pt_cmpR (op_neD hu64) (pe_callTy call_list_of rfl T.b_list (by decide +kernel) (pa_cons (pe_ix ix_tup (pv 0) pe_int (fun _ _ => rfl)) pa_nil)) (pe_listRg rfl rfl T.b_list (prg_1 rfl T.b_range (pv 1))) (nomark _)))))
      (pss_one (ps_ret pe_bl))
      pss_nil)
    (pss_cons (ps_for PassesOwn.never rfl (pi_range1 rfl T.b_range (pa_cons (pv 1) pa_nil)) (pg_n 2 sc_is_joining.nd)
      (pss_one (ps_if (pt_val (pe_callB (cr_any rfl) rfl T.b_any (by decide +kernel) (pa_cons (pe_lc (own := [("other", 6)]) (g := gName 6) (tt := tYes) rfl sc_is_joining.nd (pi_range1 rfl T.b_range (pa_cons (pv 2) pa_nil)) (blkOk_by (N := ["thing", "many", "one", "maker", "row", "with_maker", "other"]) (sc := defScope s_is_joining) (by decide +kernel)) (fun _ _ _ _ _ => (pg_n 6 sc_is_joining.nd)) (fun _ _ _ _ _ => pts_nil) (fun _ _ _ _ _ => (pe_cmpR op_ne (pe_ix (ix_tupK (K := K) rfl) (pe_ix (ix_tupK (K := K) rfl) (pv 0) (pv 2) (fun _ _ => rfl)) (pv 6) (fun _ _ => rfl)) (pe_ix (ix_tupK (K := K) rfl) (pe_ix (ix_tupK (K := K) rfl) (pv 0) (pv 6) (fun _ _ => rfl)) (pv 2) (fun _ _ => rfl)) (nomark _)))) pa_nil)))
        (pss_one (ps_ret pe_bl))
        pss_nil)))
    (pss_cons (ps_for PassesOwn.never rfl (pi_list (pe_callP G_makers_of hr (by decide) (pa_cons (pv 0) pa_nil))) (pg_n 3 sc_is_joining.nd)
      (pss_one (ps_for PassesOwn.never rfl (pi_range1 rfl T.b_range (pa_cons (pv 1) pa_nil)) (pg_n 2 sc_is_joining.nd)
        (pss_cons (ps_asg (pe_tup (pa_cons (pe_ix ix_tup (pv 0) (pe_ix ix_tup (pe_ix ix_tup (pv 0) (pv 2) (fun _ _ => rfl)) (pv 3) (fun _ _ => rfl)) (fun _ _ => rfl)) (pa_cons (pe_ix ix_tup (pv 0) (pv 2) (fun _ _ => rfl)) pa_nil))) (pg_tup rfl (pgs_cons (pg_n 4 sc_is_joining.nd) (pgs_cons (pg_n 5 sc_is_joining.nd) pgs_nil))))
        (pss_one (ps_if (pt_val (pe_callB (cr_any rfl) rfl T.b_any (by decide +kernel) (pa_cons (pe_lc (own := [("other", 6)]) (g := gName 6) (tt := tYes) rfl sc_is_joining.nd (pi_range1 rfl T.b_range (pa_cons (pv 1) pa_nil)) (blkOk_by (N := ["thing", "many", "one", "maker", "row", "with_maker", "other"]) (sc := defScope s_is_joining) (by decide +kernel)) (fun _ _ _ _ _ => (pg_n 6 sc_is_joining.nd)) (fun _ _ _ _ _ => pts_nil) (fun _ _ _ _ _ => (pe_cmpR op_ne (pe_ix (ix_tupK (K := K) rfl) (pv 4) (pv 6) (fun _ _ => rfl)) (pe_ix (ix_tupK (K := K) rfl) (pv 5) (pe_ix (ix_tupK (K := K) rfl) (pe_ix (ix_tupK (K := K) rfl) (pv 0) (pv 3) (fun _ _ => rfl)) (pv 6) (fun _ _ => rfl)) (fun _ _ => rfl)) (nomark _)))) pa_nil)))
          (pss_one (ps_ret pe_bl))
          pss_nil))))))
    (pss_one (ps_ret pe_bl))))))), ?_⟩
    simp only [st_c, st_n, st_0]
    obtain ⟨bs, hbs, hrows⟩ := id hJ
    have hbl : bs.length = J.length := pairedLen hrows
    have pos := M.pos
    have lenA : LenV K (.ref a) H J.length := .inr ⟨_, SqT.of hbs, by rw [List.length_map, hbl]⟩
    refine ⟨_, rfl, _, _, _, _, true, rfl, .ty _, .base (.tup hbs), kit_ty (by decide +kernel), true, rfl, iteF ?_⟩
    refine ⟨_, rfl, _, J.length, rfl, lenA, _, _, rfl, rfl, _, rfl, ?_⟩
    rw [decide_eq_true (show (1 : Int) ≤ (J.length : Int) by omega)]
    refine iteT ⟨_, _, rfl, rfl, _, rfl, ?_⟩
    rw [decide_eq_true (show (J.length : Int) ≤ 200 by omega)]
    refine iteF ?_
    refine ⟨_, rfl, _, J.length, rfl, lenA, ?_⟩
    refine ⟨_, rfl, a, rfl, ⟨_, SqT.of hbs⟩, fun D hD => ?_⟩
    refine lc_it walk_tup (LcP H D (RB true)) (LcP.zero hD rfl) (fun i H1 _ ⟨_, s1, _⟩ => SqT.of (s1 _ _ hbs)) ?_ fun H2 h2 => ?_
    · rintro i x H1 _ hi ⟨acc, s1, hd, hle, e⟩ ⟨rfl, hx⟩
      obtain ⟨b, hb, rfl⟩ := ref_at hx
      obtain ⟨r, hr1, hr2⟩ : ∃ r, J[i]? = some r ∧ H b = some (.tup (r.map nV)) := pairedAt2 hrows hb
      have rm := List.mem_of_getElem? hr1
      have rl := M.row r rm
      refine ⟨rfl, tyes ?_⟩
      refine ⟨_, rfl, _, rfl, b, r, J.length, rfl, s1 _ _ hr2, by omega, rows_lt M rm, fun H3 s3 => ⟨true, rfl, iteT ?_⟩⟩
      refine ⟨_, rfl, _, r.length, rfl, .inr ⟨_, SqT.of (s3 _ _ (s1 _ _ hr2)), (List.length_map ..).symm⟩, _, rfl, rfl, ?_⟩
      dsimp only
      rw [rl, decide_eq_true (rfl : V.int (J.length : Int) = _)]
      exact putB hD s1 hd hle e (Nat.lt_of_lt_of_le hi (by rw [List.length_map, hbl]; exact Nat.le_trans hn (by decide))) s3
    obtain ⟨cs, hq, eb, s3⟩ := finAll (K := K) h2
    refine ⟨D, cs, rfl, hq, ?_⟩
    rw [eb]
    refine ⟨true, rfl, iteF ?_⟩
    -- the first row
    obtain ⟨r0, e0⟩ : ∃ r, J[0]? = some r := ⟨_, List.getElem?_eq_getElem pos⟩
    obtain ⟨b0, eb0, hb0⟩ := pairedAt hrows e0
    have hr0 := M.row0 e0
    rw [hr0] at hb0
    refine ⟨_, rfl, a, _, _, _, rfl, rfl, SqT.of (s3 _ _ hbs), at_ref (i := 0) eb0, b0, _, rfl, .inr (SqT.of (s3 _ _ hb0)), fun q1 hq1 => ?_⟩
    have t1 := same_upd (o := .lst ((List.range J.length).map nV)) hq1
    refine ⟨_, rfl, _, rfl, RgOk.of_le (by omega) (by omega) (by omega) (by omega), fun q2 hq2 => ?_⟩
    rw [rgV_nat]
    have t2 := same_upd (o := .lst ((List.range J.length).map nV)) hq2
    refine rNeL (SqL.of (t2 _ _ upd_same)) (SqL.of upd_same) ?_
    refine ⟨false, by simp, iteF ?_⟩
    have s5 : Same H (upd (upd H2 q1 (.lst ((List.range J.length).map nV))) q2 (.lst ((List.range J.length).map nV))) := s3.trans (t1.trans t2)
    generalize upd (upd H2 q1 (.lst ((List.range J.length).map nV))) q2 (.lst ((List.range J.length).map nV)) = H5 at s5 ⊢
    -- a turned pair
    refine ⟨_, rfl, _, rfl, by omega, by omega, ?_⟩
    refine for_range (lo := 0) (n := J.length) (fun i σ H6 => ∃ v2 v3 v4 v5 v6, σ = [some (.ref a), some (nV J.length), v2, v3, v4, v5, v6] ∧ Same H H6) ⟨_, _, _, _, _, rfl, s5⟩ ?_ ?_
    · rintro i σ H6 hi ⟨v2, v3, v4, v5, v6, rfl, s6⟩
      rw [show (0 : Int) + (i : Int) = (i : Int) from Int.zero_add _]
      refine ⟨_, rfl, _, rfl, by omega, by omega, fun D hD => ?_⟩
      refine lc_range (lo := 0) (n := i) (LcP H6 D (RB false)) (LcP.zero hD rfl) ?_ fun H7 h7 => ?_
      · rintro j H7 hj ⟨acc, s7, hd, hle, e⟩
        rw [show (0 : Int) + (j : Int) = (j : Int) from Int.zero_add _]
        refine ⟨rfl, tyes ?_⟩
        obtain ⟨r1, p1, p2⟩ := M.at_row hi (show j < J.length by omega)
        obtain ⟨r2, p3, p4⟩ := M.at_row (show j < J.length by omega) hi
        have tb := hJ.same (s6.trans s7)
        obtain ⟨xs, b, x1, x2, x3⟩ := tb.row p1
        obtain ⟨ys, c, y1, y2, y3⟩ := tb.row p3
        refine ⟨_, rfl, _, rfl, _, _, _, _, rfl, rfl, SqT.of x1, x2, _, rfl, _, _, _, _, rfl, rfl, SqT.of x3, at_nV p2, ?_⟩
        refine ⟨_, rfl, _, rfl, _, _, _, _, rfl, rfl, SqT.of y1, y2, _, rfl, _, _, _, _, rfl, rfl, SqT.of y3, at_nV p4, rfl, ?_⟩
        rw [M.comm i j hi (by omega), decide_eq_true (rfl : nV (jn J j i) = nV (jn J j i))]
        exact putB hD s7 hd hle e (Nat.lt_of_lt_of_le hj (Nat.le_trans (show i ≤ 200 by omega) (by decide))) (Same.refl _)
      obtain ⟨cs, hq, eb, s8⟩ := finAny (K := K) h7
      refine ⟨D, cs, rfl, hq, ?_⟩
      rw [eb]
      exact ⟨false, rfl, iteF ⟨_, _, _, _, _, rfl, s6.trans s8⟩⟩
    · rintro σ H6 ⟨v2, v3, v4, v5, v6, rfl, s6⟩
      refine ⟨_, rfl, a, J, rfl, (hJ.same s6).t, M, by omega, fun H7 p fs s7 hp hf => ?_⟩
      refine ⟨p, rfl, ⟨_, SqL.of hp⟩, ?_⟩
      refine for_it walk_list (fun i σ H8 => ∃ v2 v3 v4 v5 v6, σ = [some (.ref a), some (nV J.length), v2, v3, v4, v5, v6] ∧ Same H7 H8) ⟨_, _, _, _, _, rfl, Same.refl _⟩ (fun i σ H8 _ ⟨_, _, _, _, _, _, q⟩ => SqL.of (q _ _ hp)) ?_ ?_
      · rintro i x σ _ H8 hi ⟨v2, v3, v4, v5, v6, rfl, s8⟩ ⟨rfl, hx⟩
        obtain ⟨g, hg, rfl⟩ := nV_at hx
        have gl := hf g (List.mem_of_getElem? hg)
        refine ⟨_, rfl, _, rfl, by omega, by omega, ?_⟩
        refine for_range (lo := 0) (n := J.length) (fun j σ H9 => ∃ v2 v4 v5 v6, σ = [some (.ref a), some (nV J.length), v2, some (nV g), v4, v5, v6] ∧ Same H7 H9) ⟨_, _, _, _, rfl, s8⟩ ?_ ?_
        · rintro u σ H9 hu ⟨v2, v4, v5, v6, rfl, s9⟩
          rw [show (0 : Int) + (u : Int) = (u : Int) from Int.zero_add _]
          obtain ⟨r1, p1, p2⟩ := M.at_row hu gl
          obtain ⟨r2, p3, _⟩ := M.at_row (M.lt u g hu gl) pos
          obtain ⟨r3, p5, _⟩ := M.at_row gl pos
          have tb := hJ.same ((s6.trans s7).trans s9)
          obtain ⟨xs, b, x1, x2, x3⟩ := tb.row p1
          obtain ⟨ys, c, y1, y2, y3⟩ := tb.row p3
          obtain ⟨zs, d, z1, z2, z3⟩ := tb.row p5
          refine ⟨_, rfl, _, rfl, _, rfl, _, _, _, _, rfl, rfl, SqT.of x1, x2, _, rfl, _, _, _, _, rfl, rfl, SqT.of x3, at_nV p2, _, _, _, _, rfl, rfl, SqT.of y1, y2, ?_⟩
          refine ⟨_, rfl, _, rfl, _, _, _, _, rfl, rfl, SqT.of x1, x2, Nat.le_of_ble_eq_true rfl, fun Tp hTp => ?_⟩
          refine ⟨Tp, _, rfl, SqT.of upd_same, rfl, _, _, rfl, _, _, rfl, rfl, ?_⟩
          have t10 : Same H9 (upd H9 Tp (.tup [.ref c, .ref b])) := same_upd hTp
          generalize upd H9 Tp (.tup [.ref c, .ref b]) = H10 at t10 ⊢
          refine ⟨_, rfl, _, rfl, by omega, by omega, fun D hD => ?_⟩
          refine lc_range (lo := 0) (n := J.length) (LcP H10 D (RB false)) (LcP.zero hD rfl) ?_ fun H11 h11 => ?_
          · rintro o H11 ho ⟨acc, s11, hd, hle, e⟩
            rw [show (0 : Int) + (o : Int) = (o : Int) from Int.zero_add _]
            refine ⟨rfl, tyes ?_⟩
            have t11 := t10.trans s11
            obtain ⟨r2', q1, q2⟩ := M.at_row (M.lt u g hu gl) ho
            obtain ⟨r3', q3, q4⟩ := M.at_row gl ho
            obtain ⟨r1', q5, q6⟩ := M.at_row hu (M.lt g o gl ho)
            rw [p1] at q5
            rw [p3] at q1
            rw [p5] at q3
            cases q1
            cases q3
            cases q5
            refine ⟨_, rfl, _, rfl, _, _, _, _, rfl, rfl, SqT.of (t11 _ _ y3), at_nV q2, ?_⟩
            refine ⟨_, rfl, _, rfl, _, rfl, _, _, _, _, rfl, rfl, SqT.of (t11 _ _ z1), z2, _, rfl, _, _, _, _, rfl, rfl, SqT.of (t11 _ _ z3), at_nV q4, _, _, _, _, rfl, rfl, SqT.of (t11 _ _ x3), at_nV q6, rfl, ?_⟩
            rw [M.assoc u g o hu gl ho, decide_eq_true (rfl : nV (jn J u (jn J g o)) = nV (jn J u (jn J g o)))]
            exact putB hD s11 hd hle e (Nat.lt_of_lt_of_le ho (Nat.le_trans hn (by decide))) (Same.refl _)
          obtain ⟨cs, hq, eb, s12⟩ := finAny (K := K) h11
          refine ⟨D, cs, rfl, hq, ?_⟩
          rw [eb]
          exact ⟨false, rfl, iteF ⟨_, _, _, _, rfl, s9.trans (t10.trans s12)⟩⟩
        · rintro σ H9 ⟨v2, v4, v5, v6, rfl, s9⟩
          exact ⟨_, _, _, _, _, rfl, s9⟩
      · rintro σ H8 ⟨v2, v3, v4, v5, v6, rfl, s8⟩
        exact k H8 ((s6.trans s7).trans s8)
end
end UC
set_option Elab.async false
set_option linter.all false
set_option maxRecDepth 100000
set_option maxHeartbeats 8000000
/-! Letters, what is held. -/
namespace UC
open PySem PySem.Spec PyProof.Rows L2
/-- letters and their stands, a dict -/
structure LetAt (H : Hp) (d : Addr) (ks : List Nat) (lo : Nat → List Nat) : Prop where
  ex : ∃ kvs : List (Key × V), H d = some (.dK kvs) ∧ kvs.map (·.1) = ks.map kn ∧ ∀ l ∈ ks, ∃ b, valV kvs (kn l) = some (.ref b) ∧ H b = some (.tup ((lo l).map nV))
theorem LetAt.same {H H' : Hp} {d : Addr} {ks : List Nat} {lo : Nat → List Nat} (e : Same H H') (h : LetAt H d ks lo) : LetAt H' d ks lo := by
  obtain ⟨kvs, h1, h2, h3⟩ := h.ex
  exact ⟨kvs, e _ _ h1, h2, fun l hl => let ⟨b, p, q⟩ := h3 l hl; ⟨b, p, e _ _ q⟩⟩
structure LetOk (n : Nat) (ks : List Nat) (lo : Nat → List Nat) : Prop where
  key : ∀ l ∈ ks, l ≤ 25
  asc : ∀ l, Asc (lo l)
  lt : ∀ l, ∀ x ∈ lo l, x < n
  out : ∀ l, l ∉ ks → lo l = []
theorem unfrz {H H' : Hp} {d : Addr} {od : Obj} {u : HO} (hd : H d = some u) (e : Same (upd H d (.frz od u)) H') : H' d = some (.frz od u) ∧ Same H (upd H' d u) := by
  refine ⟨e _ _ upd_same, fun b o q => ?_⟩
  by_cases z : b = d
  · subst z
    rw [hd] at q
    cases q
    exact upd_same
  · rw [upd_ne z]
    exact e _ _ (by rw [upd_ne z]; exact q)
theorem sameX_upd {H : Hp} {d : Addr} {o : HO} : SameX d H (upd H d o) := fun b u nb q => by
  rw [upd_ne nb]
  exact q
theorem TblG.keepX {H H' : Hp} {a d : Addr} {J : List (List Nat)} {kvs : List (Key × V)} (hd : H d = some (.dK kvs)) (e : SameX d H H') (h : TblG H a J) : TblG H' a J := by
  have nt : ∀ (p : Addr) (xs : List V), H p = some (.tup xs) → p ≠ d := fun p xs q z => by rw [z, hd] at q; cases q
  obtain ⟨bs, h1, h2⟩ := h
  exact ⟨bs, e _ _ (nt _ _ h1) h1, Paired.mapP h2 fun _ _ q => e _ _ (nt _ _ q) q⟩
theorem LotAt.keepX {K : PySem.W.Frag} {H H' : Hp} {p d : Addr} {z : Str} {ms : List Nat} {kvs : List (Key × V)} (hd : H d = some (.dK kvs)) (e : SameX d H H') (h : LotAt K H p z ms) : LotAt K H' p z ms := by
  obtain ⟨dx, mk, lz, h1, h2⟩ := h.ex
  exact ⟨dx, mk, lz, e _ _ (fun z => by rw [z, hd] at h1; cases h1) h1, e _ _ (fun z => by rw [z, hd] at h2; cases h2) h2⟩
section
variable {P : Program} {w : World} {K : PySem.W.Frag} {mg : Str → Option Value} {base : Heap}
def sp_are_letters : Sp := fun vs H Q _ => ∃ (d : Addr) (ks : List Nat) (lo : Nat → List Nat) (n : Nat), vs = [.ref d, nV n] ∧ LetAt H d ks lo ∧ LetOk n ks lo ∧ n ≤ 1000 ∧ ∀ H', Same H H' → Q (.bl true) H'
theorem sc_are_letters : FnScope ["thing", "many", "key"] ["thing", "many"] (defScope s_are_letters) := ⟨rfl, rfl, rfl, by decide +kernel, rfl, by decide +kernel, by decide +kernel⟩
theorem ok_are_letters (T : Txt K mg) : Pr P w K mg base 3 "are_letters" ["thing", "many"] sp_are_letters := by
  have G_is_integer : Pr P w K mg base 1 "is_integer" _ _ := ok_is_integer T
  have G_are_stands : Pr P w K mg base 2 "are_stands" _ _ := ok_are_stands T
  refine T.d_are_letters.pr sc_are_letters (fun vs H Q E h => ?_) (fun _ _ _ _ _ _ us hl => match us, hl with | [_, _], _ => rfl) (fun f cdv A outer s H vs Q E hr h => ?_)
  · obtain ⟨d, ks, lo, n, rfl, _⟩ := h
    rfl
  · obtain ⟨d, ks, lo, n, rfl, hL, ok, hn, k⟩ := h
    have hu := hu_of hr
    have hu64 := roomU hr
    refine ⟨_, (pss_cons (ps_if (pt_not (pt_val (pe_callB call_isi rfl T.b_isinstance (by decide +kernel) (pa_cons (pv 0) (pa_cons (pe_bltn (v := .ty "dict") (by rfl) T.b_dict (by decide +kernel) rfl) pa_nil)))))
      (pss_one (ps_ret pe_bl))
      pss_nil)
    (pss_cons (ps_lock (ps_for PassesOwn.never rfl (pi_keys (pv 0)) (pg_n 2 sc_are_letters.nd)
      (pss_cons (ps_if (PW.pt (pw_or (pt_not (pt_val (pe_callP G_is_integer hr (by decide) (pa_cons (pv 2) pa_nil)))) (pw_or (pt_not (pt_chain op_le op_le pe_int (pv 2) (pe_cI T.k_LAST_LETTER))) (pw_or1 (pt_not (pt_val (pe_callP G_are_stands hr (by decide) (pa_cons (pe_dget hu (pv 0) (pv 2) (fun _ _ => rfl)) (pa_cons (pv 1) pa_nil)))))))))
        (pss_one (ps_ret pe_bl))
        pss_nil)
      (pss_one (ps_if (pt_cmpR (op_neD hu64) (pe_callTy call_list_of rfl T.b_list (by decide +kernel) (pa_cons (pe_dget hu (pv 0) (pv 2) (fun _ _ => rfl)) pa_nil)) (pe_callB (cr_sortedSetN rfl) rfl T.b_sorted (by decide +kernel) (pa_cons (pe_callTy (cr_setLT rfl) rfl T.b_set (by decide +kernel) (pa_cons (pe_dget hu (pv 0) (pv 2) (fun _ _ => rfl)) pa_nil)) pa_nil)) (nomark _))
        (pss_one (ps_ret pe_bl))
        pss_nil)))))
    (pss_one (ps_ret pe_bl)))), ?_⟩
    simp only [st_c, st_n, st_0]
    obtain ⟨kvs, hd, hkeys, hval⟩ := hL.ex
    refine ⟨_, rfl, _, _, _, _, true, rfl, .ty _, .base (.dK hd), kit_ty (by decide +kernel), true, rfl, iteF ?_⟩
    refine ⟨d, _, hd, trivial, fun od => ?_⟩
    have hd0 : (upd H d (.frz od (.dK kvs))) d = some (.frz od (.dK kvs)) := upd_same
    refine ⟨_, rfl, d, od, rfl, .inl ⟨kvs, hd0, ?_⟩⟩
    refine for_it walk_keys (fun i σ H' => ∃ v2, σ = [some (.ref d), some (nV n), v2] ∧ Same (upd H d (.frz od (.dK kvs))) H') ⟨_, rfl, Same.refl _⟩ (fun i σ H' _ ⟨_, _, q⟩ => q _ _ hd0) ?_ ?_
    · rintro i x σ _ H' hi ⟨v2, rfl, s1⟩ ⟨rfl, ky, v, hkv, rfl⟩
      obtain ⟨l, hl, rfl⟩ : ∃ l ∈ ks, ky = kn l := by
        have hm : ky ∈ kvs.map (·.1) := List.mem_map.mpr ⟨_, List.mem_of_getElem? hkv, rfl⟩
        rw [hkeys] at hm
        obtain ⟨l, a, b⟩ := List.mem_map.mp hm
        exact ⟨l, a, b.symm⟩
      obtain ⟨b, hb1, hb2⟩ := hval l hl
      have l25 := ok.key l hl
      have llen : (lo l).length ≤ 1000 := Nat.le_trans (asc_len (ok.lt l) (ok.asc l)) hn
      have hbd : b ≠ d := fun z => by rw [z, hd] at hb2; cases hb2
      have hb3 : (upd H d (.frz od (.dK kvs))) b = some (.tup ((lo l).map nV)) := by rw [upd_ne hbd]; exact hb2
      have get : ∀ H2, Same (upd H d (.frz od (.dK kvs))) H2 → DGet H2 d (kV (kn l)) (some (.ref b)) := fun H2 e => .inl ⟨kvs, kn l, .inr ⟨od, e _ _ hd0⟩, rfl, hb1.symm⟩
      refine ⟨_, rfl, (l : Int), rfl, true, rfl, iteF ?_⟩
      refine ⟨_, rfl, _, _, rfl, rfl, _, rfl, ?_⟩
      rw [decide_eq_true (show (0 : Int) ≤ (l : Int) by omega)]
      refine iteT ⟨_, _, rfl, rfl, _, rfl, ?_⟩
      rw [decide_eq_true (show (l : Int) ≤ 25 by omega)]
      refine iteF ?_
      refine ⟨_, rfl, _, rfl, d, _, rfl, get _ s1, _, rfl, b, lo l, n, rfl, s1 _ _ hb3, llen, ok.lt l, fun H2 s2 => ⟨true, rfl, iteF ?_⟩⟩
      have s12 := s1.trans s2
      refine ⟨_, rfl, _, rfl, d, _, rfl, get _ s12, b, _, rfl, .inr (SqT.of (s12 _ _ hb3)), fun q1 hq1 => ?_⟩
      have t1 := same_upd (o := .lst ((lo l).map nV)) hq1
      refine ⟨_, rfl, _, rfl, d, _, rfl, get _ (s12.trans t1), b, (lo l).map fun (x : Nat) => (x : Int), rfl, .inr (SqT.of (by rw [mapV]; exact (s12.trans t1) _ _ hb3)), (by rw [List.length_map]; exact llen), fun p c hp hc => ?_⟩
      refine ⟨p, _, c, rfl, upd_same, Nat.le_trans hc (by rw [List.length_map]; exact llen), fun ns q up mem hq => ?_⟩
      obtain ⟨xs, rfl, ax, hm⟩ := asc_ints up mem
      rw [mapV]
      have ex : xs = lo l := asc_ext ax (ok.asc l) hm
      rw [ex]
      have t2 := (same_upd hp).trans (same_upd (o := .lst ((lo l).map nV)) hq)
      refine rNeL (SqL.of (t2 _ _ upd_same)) (SqL.of upd_same) ?_
      refine ⟨false, by simp, iteF ?_⟩
      exact ⟨_, rfl, s12.trans (t1.trans t2)⟩
    · rintro σ H' ⟨v2, rfl, s1⟩
      obtain ⟨u1, u2⟩ := unfrz hd s1
      exact ⟨u1, k _ u2⟩
/-! held_of -/
inductive Sm (ms : List Nat) : Nat → Nat → Prop where
  | one : Sm ms 0 1
  | put {m k s : Nat} (h : m ∈ ms) (t : Sm ms k s) : Sm ms (k + 1) (s + m)
def HeldP (z : Str) (ms : List Nat) (n s : Nat) : Prop := (z = "once" ∧ s = 1) ∨ (z = "loan" ∧ (s = 0 ∨ s = 1)) ∨ (z = "free" ∧ s < n) ∨ (z = "more" ∧ ∃ k, k < n ∧ Sm ms k s)
def sp_held_of (K : PySem.W.Frag) : Sp := fun vs H Q _ => ∃ (lp a : Addr) (z : Str) (ms : List Nat) (J : List (List Nat)) (v : Nat), vs = [.ref lp, .ref a, nV v] ∧ LotAt K H lp z ms ∧ LotOk z ms ∧ TblT K H a J ∧ Mon J ∧ J.length ≤ 1000 ∧ v < J.length ∧
  ∀ (H' : Hp) (p : Addr) (hs : List Nat), H p = none → Same H H' → H' p = some (.lst (hs.map nV)) → hs.length ≤ 1001 → (∀ x ∈ hs, ∃ s, HeldP z ms J.length s ∧ x = ml J s v) → Q (.ref p) H'
/-- what is found so far, what waits -/
structure BfSt (H : Hp) (d wl : Addr) (J : List (List Nat)) (v : Nat) (Pk : Nat → Nat → Prop) (ks ws : List Nat) (H' : Hp) : Prop where
  s : Same H H'
  d : H' d = some (.dK (kd ks))
  w : H' wl = some (.lst (ws.map nV))
  nd : ks.Nodup
  wk : ∀ x ∈ ws, x ∈ ks
  kp : ∀ x ∈ ks, x < J.length ∧ ∃ k s, k < ks.length ∧ Pk k s ∧ x = ml J s v
theorem BfSt.len {H H' : Hp} {d wl : Addr} {J : List (List Nat)} {v : Nat} {Pk : Nat → Nat → Prop} {ks ws : List Nat} (h : BfSt H d wl J v Pk ks ws H') : ks.length ≤ J.length := nodup_len _ _ h.nd fun x hx => (h.kp x hx).1
theorem BfSt.put {H H' : Hp} {d wl : Addr} {J : List (List Nat)} {v : Nat} {Pk : Nat → Nat → Prop} {ks ws : List Nat} {x m : Nat} (h : BfSt H d wl J v Pk ks ws H') (M : Mon J) (hv : v < J.length) (d0 : H d = none) (w0 : H wl = none) (wd : wl ≠ d) (hx : x ∈ ks) (hm : ∀ k s, Pk k s → Pk (k + 1) (s + m)) (new : jn J x (ml J m v) ∉ ks) :
    BfSt H d wl J v Pk (insN ks (jn J x (ml J m v))) (ws ++ [jn J x (ml J m v)]) (upd (upd H' d (.dK (kd (insN ks (jn J x (ml J m v)))))) wl (.lst (ws.map nV ++ [nV (jn J x (ml J m v))]))) ∧ mkM J.length (insN ks (jn J x (ml J m v))) (ws ++ [jn J x (ml J m v)]) + 1 ≤ mkM J.length ks ws ∧ ks.length < J.length := by
  obtain ⟨xl, k, s, hk, hp, ex⟩ := h.kp x hx
  have yl : jn J x (ml J m v) < J.length := M.lt _ _ xl (M.ml_lt hv m)
  have ey : jn J x (ml J m v) = ml J (s + m) v := by rw [M.ml_add hv, ← ex]
  generalize jn J x (ml J m v) = y at *
  have e : insN ks y = ks ++ [y] := if_neg new
  have nd2 := insN_nodup (k := y) h.nd
  have kp2 : ∀ u ∈ insN ks y, u < J.length ∧ ∃ k s, k < (insN ks y).length ∧ Pk k s ∧ u = ml J s v := fun u hu => by
    rcases mem_insN.mp hu with q | q
    · obtain ⟨a, k', s', b, c, d'⟩ := h.kp u q
      exact ⟨a, k', s', by rw [e, List.length_append]; omega, c, d'⟩
    · rw [q]
      exact ⟨yl, k + 1, s + m, by rw [e, List.length_append, List.length_singleton]; omega, hm _ _ hp, ey⟩
  have len := nodup_len _ _ nd2 fun u hu => (kp2 u hu).1
  rw [e, List.length_append, List.length_singleton] at len
  refine ⟨⟨same_put w0 (same_put d0 h.s), ?_, ?_, nd2, fun u hu => ?_, kp2⟩, ?_, by omega⟩
  · rw [upd_ne wd.symm, upd_same]
  · rw [upd_same, List.map_append]
    rfl
  · rcases List.mem_append.mp hu with q | q
    · exact mem_insN.mpr (.inl (h.wk u q))
    · exact mem_insN.mpr (.inr (List.mem_singleton.mp q))
  · unfold mkM
    rw [e, List.length_append, List.length_append, List.length_singleton]
    omega
theorem sorted_N {ys : List Int} {ks : List Nat} (h : ys.Perm (ks.map fun (x : Nat) => (x : Int))) : ∃ hs : List Nat, ys = hs.map (fun (x : Nat) => (x : Int)) ∧ hs.length = ks.length ∧ ∀ x, x ∈ hs ↔ x ∈ ks := by
  obtain ⟨hs, rfl⟩ := nat_list (ns := ys) fun k hk => by
    obtain ⟨y, _, rfl⟩ := List.mem_map.mp (h.mem_iff.mp hk)
    exact Int.natCast_nonneg y
  refine ⟨hs, rfl, by simpa using h.length_eq, fun x => ?_⟩
  rw [← mem_cast, h.mem_iff, mem_cast]
theorem kd_fst (ks : List Nat) : (kd ks).map (·.1) = (ks.map fun (x : Nat) => (x : Int)).map Sum.inl := by
  unfold kd
  rw [List.map_map, List.map_map]
  rfl
theorem sc_held_of : FnScope ["lot", "joining", "stand", "found", "steps", "waiting", "here", "step", "later", "maker"] ["lot", "joining", "stand"] (defScope s_held_of) := ⟨rfl, rfl, rfl, by decide +kernel, rfl, by decide +kernel, by decide +kernel⟩
theorem ok_held_of (T : Txt K mg) : Pr P w K mg base 2 "held_of" ["lot", "joining", "stand"] (sp_held_of K) := by
  have G_so_often : Pr P w K mg base 1 "so_often" _ _ := ok_so_often T
  refine T.d_held_of.pr sc_held_of (fun vs H Q E h => ?_) (fun _ _ _ _ _ _ us hl => match us, hl with | [_, _, _], _ => rfl) (fun f cdv A outer s H vs Q E hr h => ?_)
  · obtain ⟨lp, a, z, ms, J, v, rfl, _⟩ := h
    rfl
  · obtain ⟨lp, a, z, ms, J, v, rfl, hL, ok, hJ, M, hn, hv, k⟩ := h
    have hu := hu_of hr
    obtain ⟨dx, mk, lz, l1, l2⟩ := hL.ex
    refine ⟨_, (pss_cons (ps_if (pt_cmpR op_eq (pe_fld (pv 0) rfl) (pe_cS T.k_ONCE) (nomark _))
      (pss_one (ps_ret (pe_lst (pa_cons (pv 2) pa_nil))))
      pss_nil)
    (pss_cons (ps_if (pt_cmpR op_eq (pe_fld (pv 0) rfl) (pe_cS T.k_LOAN) (nomark _))
      (pss_one (ps_ret (pe_callB (cr_sortedSetN rfl) rfl T.b_sorted (by decide +kernel) (pa_cons (pe_callTy (cr_setLT rfl) rfl T.b_set (by decide +kernel) (pa_cons (pe_lst (pa_cons pe_int (pa_cons (pv 2) pa_nil))) pa_nil)) pa_nil))))
      pss_nil)
    (pss_cons (ps_s 3 sc_held_of.nd (pe_ifExp (pt_cmpR op_eq (pe_fld (pv 0) rfl) (pe_cS T.k_MORE) (nomark _)) (pe_disp (pps_cons (pv 2) pe_bl pps_nil) (by rfl) (by rfl) (fun z => by cases z) (by decide)) (pe_disp (pps_cons pe_int pe_bl pps_nil) (by rfl) (by rfl) (fun z => by cases z) (by decide))))
    (pss_cons (ps_s 4 sc_held_of.nd (pe_ifExp (pt_cmpR op_eq (pe_fld (pv 0) rfl) (pe_cS T.k_MORE) (nomark _)) (pe_lc (own := [("maker", 9)]) (g := gName 9) (tt := tYes) rfl sc_held_of.nd (pi_tup (pe_fld (pv 0) rfl)) (blkOk_by (N := ["lot", "joining", "stand", "found", "steps", "waiting", "here", "step", "later", "maker"]) (sc := defScope s_held_of) (by decide +kernel)) (fun _ _ _ _ _ => (pg_n 9 sc_held_of.nd)) (fun _ _ _ _ _ => pts_nil) (fun _ _ _ _ _ => (pe_callP G_so_often hr (by decide) (pa_cons (pv 1) (pa_cons (pv 2) (pa_cons (pv 9) pa_nil)))))) (pe_lst (pa_cons (pv 2) pa_nil))))
    (pss_cons (ps_s 5 sc_held_of.nd (pe_callTy (call_list_dK rfl) rfl T.b_list (by decide +kernel) (pa_cons (pv 3) pa_nil)))
    (pss_cons (ps_while PassesOwn.never (pt_cmpR op_gt (pe_callB call_len rfl T.b_len (by decide +kernel) (pa_cons (pv 5) pa_nil)) pe_int (nomark _))
      (pss_cons (ps_s 6 sc_held_of.nd (pe_bm0 PySem.F.plainAttrs_list PySem.F.slot_list_pop PySem.F.type_list_pop mt_pop (pv 5)))
      (pss_one (ps_for PassesOwn.never rfl (pi_list (pv 4)) (pg_n 7 sc_held_of.nd)
        (pss_cons (ps_s 8 sc_held_of.nd (pe_ix ix_tup (pe_ix ix_tup (pv 1) (pv 6) (fun _ _ => rfl)) (pv 7) (fun _ _ => rfl)))
        (pss_one (ps_if (pt_cmp (pc_dnotin hu (pv 8) (pv 3)))
          (pss_cons (ps_dput hu (pv 3) (pv 8) pe_bl rfl)
          (pss_one (ps_expr (pe_bm PySem.F.plainAttrs_list PySem.F.slot_list_append PySem.F.type_list_append mt_append (pv 5) (pa_cons (pv 8) pa_nil)))))
          pss_nil)))))))
    (pss_one (ps_ret (pe_callB (cr_sortedDN rfl) rfl T.b_sorted (by decide +kernel) (pa_cons (pv 3) pa_nil)))))))))), ?_⟩
    simp only [st_c, st_n, st_0]
    refine ⟨_, rfl, lp, _, dx, _, _, rfl, l1, T.o_Lot.cl, T.n_Lot_word, rfl, rfl, _, rfl, ?_⟩
    rw [dec_str]
    by_cases z1 : z = "once"
    · rw [show (z == ("once" : Str)) = true from beq_iff_eq.mpr z1]
      refine iteT ⟨_, rfl, Nat.le_of_ble_eq_true rfl, fun p hp => ?_⟩
      exact k _ p [v] hp (same_upd hp) upd_same (by simp) fun x hx => ⟨1, .inl ⟨z1, rfl⟩, by rw [List.mem_singleton.mp hx, M.ml_one hv]⟩
    rw [show (z == ("once" : Str)) = false from beq_eq_false_iff_ne.mpr z1]
    refine iteF ⟨_, rfl, lp, _, dx, _, _, rfl, l1, T.o_Lot.cl, T.n_Lot_word, rfl, rfl, _, rfl, ?_⟩
    rw [dec_str]
    by_cases z2 : z = "loan"
    · rw [show (z == ("loan" : Str)) = true from beq_iff_eq.mpr z2]
      refine iteT ⟨_, rfl, Nat.le_of_ble_eq_true rfl, fun q1 hq1 => ?_⟩
      refine ⟨q1, [0, (v : Int)], rfl, .inl (SqL.of upd_same), Nat.le_of_ble_eq_true rfl, fun p c hp hc => ?_⟩
      refine ⟨p, _, c, rfl, upd_same, Nat.le_trans hc (show 2 ≤ 1000 by decide), fun ns q up mem hq => ?_⟩
      obtain ⟨xs, rfl, ax, hm⟩ := asc_ints (xs := [0, v]) up mem
      rw [mapV]
      have hmem : ∀ x ∈ xs, x = 0 ∨ x = v := fun x hx => by simpa using (hm x).mp hx
      have hxl : ∀ x ∈ xs, x < J.length := fun x hx => (hmem x hx).elim (fun e => by rw [e]; exact M.pos) fun e => by rw [e]; exact hv
      refine k _ q xs (((same_upd hq1).trans (same_upd hp)).free hq) (((same_upd hq1).trans (same_upd hp)).trans (same_upd hq)) upd_same (Nat.le_trans (asc_len hxl ax) (by omega)) fun x hx => ?_
      rcases hmem x hx with e | e
      · exact ⟨0, .inr (.inl ⟨z2, .inl rfl⟩), e⟩
      · exact ⟨1, .inr (.inl ⟨z2, .inr rfl⟩), by rw [e, M.ml_one hv]⟩
    rw [show (z == ("loan" : Str)) = false from beq_eq_false_iff_ne.mpr z2]
    refine iteF ⟨_, rfl, lp, _, dx, _, _, rfl, l1, T.o_Lot.cl, T.n_Lot_word, rfl, rfl, _, rfl, ?_⟩
    rw [dec_str]
    by_cases z4 : z = "more"
    · rw [show (z == ("more" : Str)) = true from beq_iff_eq.mpr z4]
      refine iteT ?_
      intro d hd
      have d0 : H d = none := hd
      refine ⟨_, rfl, upd_same, [(kn v, V.bl true)], rfl, Nat.le_of_ble_eq_true rfl, ?_⟩
      have ed : mergeK [] [(kn v, V.bl true)] = kd [v] := rfl
      rw [ed]
      have s2 : Same H (upd (upd H d (.dK [])) d (.dK (kd [v]))) := same_put d0 (same_upd d0)
      have hd2 : (upd (upd H d (.dK [])) d (.dK (kd [v]))) d = some (.dK (kd [v])) := upd_same
      generalize upd (upd H d (.dK [])) d (.dK (kd [v])) = H2 at s2 hd2 ⊢
      have l1' := s2 _ _ l1
      refine ⟨_, rfl, lp, _, dx, _, _, rfl, l1', T.o_Lot.cl, T.n_Lot_word, rfl, rfl, _, rfl, ?_⟩
      rw [dec_str, show (z == ("more" : Str)) = true from beq_iff_eq.mpr z4]
      refine iteT ?_
      refine ⟨_, rfl, lp, _, dx, _, _, rfl, l1', T.o_Lot.cl, T.n_Lot_makers, rfl, mk, rfl, ⟨_, SqT.of (s2 _ _ l2)⟩, fun sl hsl0 => ?_⟩
      have hl2 := s2 _ _ l2
      refine lc_it walk_tup (LcP H2 sl (fun i acc _ => acc = (ms.take i).map (fun m => nV (ml J m v)))) (LcP.zero hsl0 rfl) (fun i H1 _ ⟨_, s1, _⟩ => SqT.of (s1 _ _ hl2)) ?_ fun H3 h3 => ?_
      · rintro i x H1 _ hi ⟨acc, s1, hda, hle, e⟩ ⟨rfl, hx⟩
        obtain ⟨m, hm, rfl⟩ := nV_at hx
        refine ⟨rfl, tyes ?_⟩
        refine ⟨_, rfl, _, rfl, _, rfl, a, J, v, m, rfl, hJ.same (s2.trans s1), M, hv, ?_⟩
        refine LcP.put hsl0 s1 hda hle (Nat.lt_of_lt_of_le hi (by rw [List.length_map]; exact Nat.le_trans ok.len (by decide))) (Same.refl _) ?_
        rw [e]
        exact take_succ_map hm
      obtain ⟨acc, s23, hsl, _, e⟩ := h3
      rw [List.length_map, List.take_length] at e
      have s3 : Same H H3 := s2.trans s23
      have hd3 := s23 _ _ hd2
      have sd : sl ≠ d := (ne_of_none hd2 hsl0).symm
      generalize hsts0 : ms.map (fun m => ml J m v) = sts
      have e3 : acc = sts.map nV := by rw [e, ← hsts0, List.map_map]; rfl
      rw [e3] at hsl
      have hsts : ∀ x ∈ sts, ∃ m, x = ml J m v ∧ ∀ k s, Sm ms k s → Sm ms (k + 1) (s + m) := fun x hx => by
        rw [← hsts0] at hx
        obtain ⟨m, hm, rfl⟩ := List.mem_map.mp hx
        exact ⟨m, rfl, fun k s h => .put hm h⟩
      have base0 : v < J.length ∧ ∃ k s, k < [v].length ∧ Sm ms k s ∧ v = ml J s v := ⟨hv, 0, 1, Nat.zero_lt_one, .one, (M.ml_one hv).symm⟩
      have st0w : ∀ wl, H3 wl = none → BfSt H d wl J v (Sm ms) [v] [v] (upd H3 wl (.lst [nV v])) := fun wl hwl => by
        refine ⟨s3.trans (same_upd hwl), same_upd hwl _ _ hd3, upd_same, by simp, fun x hx => hx, fun x hx => ?_⟩
        rw [List.mem_singleton.mp hx]
        exact base0
      refine ⟨_, rfl, d, kd [v], rfl, hd3, fun wl hwl => ?_⟩
      have w0 : H wl = none := s3.free hwl
      have wd : wl ≠ d := (ne_of_none hd3 hwl).symm
      have wsl : wl ≠ sl := (ne_of_none hsl hwl).symm
      have st0 := st0w wl hwl
      have hsl4 := same_upd (o := .lst [nV v]) hwl _ _ hsl
      rw [kd_keys]
      refine ⟨fun m σ H6 => ∃ v6 v7 v8 v9 ks ws, σ = [some (.ref lp), some (.ref a), some (nV v), some (.ref d), some (.ref sl), some (.ref wl), v6, v7, v8, v9] ∧ BfSt H d wl J v (Sm ms) ks ws H6 ∧ H6 sl = some (.lst (sts.map nV)) ∧ m = mkM J.length ks ws ∧ m ≤ 4 * J.length, ⟨_, _, _, _, _, _, _, rfl, st0, hsl4, rfl, by unfold mkM; rw [List.length_singleton]; omega⟩, ?_⟩
      rintro m σ H6 ⟨v6, v7, v8, v9, ks, ws, rfl, st, hs6, rfl, m4⟩
      refine ⟨_, rfl, _, ws.length, rfl, .inl ⟨_, SqL.of st.w, (List.length_map ..).symm⟩, _, _, rfl, rfl, _, rfl, ?_⟩
      rcases List.eq_nil_or_concat ws with rfl | ⟨ws, x, rfl⟩
      · refine iteF ?_
        have kl := st.len
        refine ⟨_, rfl, d, kd ks, ks.map (fun (x : Nat) => (x : Int)), rfl, .inl st.d, kd_fst ks, by rw [List.length_map]; exact Nat.le_trans kl hn, fun ys p hperm hsort hp => ?_⟩
        obtain ⟨hs, rfl, hl, hm⟩ := sorted_N hperm
        rw [mapV]
        exact k _ p hs (st.s.free hp) (st.s.trans (same_upd hp)) upd_same (by omega) fun x hx => by
          obtain ⟨a1, k1, s1, b1, c1, d1⟩ := st.kp x ((hm x).mp hx)
          exact ⟨s1, (.inr (.inr (.inr ⟨z4, k1, Nat.lt_of_lt_of_le b1 kl, c1⟩))), d1⟩
      rw [List.concat_eq_append] at *
      rw [decide_eq_true (show (0 : Int) < ((ws ++ [x]).length : Int) by simp)]
      refine iteT ⟨fun σ' H7 => ∃ m', m' < mkM J.length ks (ws ++ [x]) ∧ ∃ v6 v7 v8 v9 ks ws, σ' = [some (.ref lp), some (.ref a), some (nV v), some (.ref d), some (.ref sl), some (.ref wl), v6, v7, v8, v9] ∧ BfSt H d wl J v (Sm ms) ks ws H7 ∧ H7 sl = some (.lst (sts.map nV)) ∧ m' = mkM J.length ks ws ∧ m' ≤ 4 * J.length, fun σ' H7 h => h, ?_⟩
      refine ⟨_, rfl, .inl ⟨rfl, _, SqL.of st.w⟩, wl, _, nV x, rfl, rfl, st.w, nV_last ws x, ?_⟩
      rw [nV_drop]
      have st1 : BfSt H d wl J v (Sm ms) ks ws (upd H6 wl (.lst (ws.map nV))) := by
        refine ⟨same_put w0 st.s, ?_, upd_same, st.nd, fun y hy => st.wk y (List.mem_append_left _ hy), st.kp⟩
        rw [upd_ne wd.symm]
        exact st.d
      have hs7 : (upd H6 wl (.lst (ws.map nV))) sl = some (.lst (sts.map nV)) := by
        rw [upd_ne wsl.symm]
        exact hs6
      have hxk : x ∈ ks := st.wk x (by simp)
      have hx : x < J.length := (st.kp x hxk).1
      have mlt : mkM J.length ks ws < mkM J.length ks (ws ++ [x]) := by
        unfold mkM
        rw [List.length_append, List.length_singleton]
        omega
      generalize upd H6 wl (.lst (ws.map nV)) = H7 at st1 hs7 ⊢
      refine ⟨_, rfl, sl, rfl, ⟨_, SqL.of hs7⟩, ?_⟩
      refine for_it walk_list (fun j σ H8 => ∃ v7 v8 v9 ks2 ws2, σ = [some (.ref lp), some (.ref a), some (nV v), some (.ref d), some (.ref sl), some (.ref wl), some (nV x), v7, v8, v9] ∧ BfSt H d wl J v (Sm ms) ks2 ws2 H8 ∧ H8 sl = some (.lst (sts.map nV)) ∧ mkM J.length ks2 ws2 ≤ mkM J.length ks ws ∧ ∀ y ∈ ks, y ∈ ks2) ⟨_, _, _, ks, ws, rfl, st1, hs7, Nat.le_refl _, fun y hy => hy⟩ (fun j σ H8 _ ⟨_, _, _, _, _, _, _, q, _⟩ => SqL.of q) ?_ ?_
      · rintro j y σ _ H8 hj ⟨v7, v8, v9, ks2, ws2, rfl, st2, hs8, hm, hsub⟩ ⟨rfl, hy⟩
        obtain ⟨g, hg, rfl⟩ := nV_at hy
        obtain ⟨m1, rfl, hstep⟩ := hsts g (List.mem_of_getElem? hg)
        have gl : ml J m1 v < J.length := M.ml_lt hv m1
        obtain ⟨r, e1, e2⟩ := M.at_row hx gl
        obtain ⟨xs, b, g1, g2, g3⟩ := (hJ.same st2.s).row e1
        refine ⟨_, rfl, _, rfl, _, _, _, _, rfl, rfl, g1, g2, _, rfl, _, _, _, _, rfl, rfl, g3, at_nV e2, ?_⟩
        refine ⟨_, rfl, _, rfl, d, _, rfl, DGet.k (k := kn (jn J x (ml J m1 v))) st2.d, _, rfl, ?_⟩
        rw [kd_some]
        by_cases hk2 : jn J x (ml J m1 v) ∈ ks2
        · rw [decide_eq_true hk2]
          exact iteF ⟨_, _, _, ks2, ws2, rfl, st2, hs8, hm, hsub⟩
        rw [decide_eq_false hk2]
        obtain ⟨st3, lt3, kn3⟩ := st2.put M hv d0 w0 wd (hsub x hxk) hstep hk2
        refine iteT ?_
        refine ⟨_, rfl, _, rfl, d, _, rfl, DPut.k (k := kn (jn J x (ml J m1 v))) st2.d (by rw [kd_len]; exact Nat.lt_of_lt_of_le kn3 (Nat.le_trans hn (by decide))), ?_⟩
        rw [kd_put]
        have hw8 : (upd H8 d (.dK (kd (insN ks2 (jn J x (ml J m1 v)))))) wl = some (.lst (ws2.map nV)) := by
          rw [upd_ne wd]
          exact st2.w
        have hws : ws2.length < sizeLine := by
          have a1 : ws2.length ≤ mkM J.length ks2 ws2 := Nat.le_add_left _ _
          exact Nat.lt_of_le_of_lt (show ws2.length ≤ 4000 by omega) (by decide)
        refine ⟨_, rfl, .inl ⟨rfl, _, SqL.of hw8⟩, _, rfl, wl, _, _, rfl, rfl, hw8, by rw [List.length_map]; exact hws, ?_⟩
        refine ⟨_, _, _, _, _, rfl, st3, ?_, by omega, fun y hy => mem_insN.mpr (.inl (hsub y hy))⟩
        rw [upd_ne wsl.symm, upd_ne sd]
        exact hs8
      · rintro σ H8 ⟨v7, v8, v9, ks2, ws2, rfl, st2, hs8, hm, _⟩
        exact ⟨_, by omega, _, _, _, _, ks2, ws2, rfl, st2, hs8, rfl, by omega⟩
    · have z3 : z = "free" := (ok.word.resolve_left z1).resolve_left z2 |>.resolve_right z4
      rw [show (z == ("more" : Str)) = false from beq_eq_false_iff_ne.mpr z4]
      refine iteF ?_
      intro d hd
      have d0 : H d = none := hd
      refine ⟨upd_same, [(kn 0, V.bl true)], rfl, Nat.le_of_ble_eq_true rfl, ?_⟩
      have ed : mergeK [] [(kn 0, V.bl true)] = kd [0] := rfl
      rw [ed]
      have s2 : Same H (upd (upd H d (.dK [])) d (.dK (kd [0]))) := same_put d0 (same_upd d0)
      have hd2 : (upd (upd H d (.dK [])) d (.dK (kd [0]))) d = some (.dK (kd [0])) := upd_same
      generalize upd (upd H d (.dK [])) d (.dK (kd [0])) = H2 at s2 hd2 ⊢
      have l1' := s2 _ _ l1
      refine ⟨_, rfl, lp, _, dx, _, _, rfl, l1', T.o_Lot.cl, T.n_Lot_word, rfl, rfl, _, rfl, ?_⟩
      rw [dec_str, show (z == ("more" : Str)) = false from beq_eq_false_iff_ne.mpr z4]
      refine iteF ?_
      refine ⟨_, rfl, Nat.le_of_ble_eq_true rfl, fun sl hsl0 => ?_⟩
      have s23 : Same H2 (upd H2 sl (.lst [nV v])) := same_upd hsl0
      have hsl : (upd H2 sl (.lst [nV v])) sl = some (.lst ([v].map nV)) := upd_same
      generalize upd H2 sl (.lst [nV v]) = H3 at s23 hsl ⊢
      have s3 : Same H H3 := s2.trans s23
      have hd3 := s23 _ _ hd2
      have sd : sl ≠ d := (ne_of_none hd2 hsl0).symm
      generalize hsts0 : [v] = sts at hsl
      have hsts : ∀ x ∈ sts, ∃ m, x = ml J m v ∧ ∀ k s, k = s → k + 1 = s + m := fun x hx => by
        rw [← hsts0] at hx
        exact ⟨1, by rw [List.mem_singleton.mp hx, M.ml_one hv], fun k s h => by omega⟩
      have base0 : 0 < J.length ∧ ∃ k s, k < [0].length ∧ k = s ∧ 0 = ml J s v := ⟨M.pos, 0, 0, Nat.zero_lt_one, rfl, rfl⟩
      have st0w : ∀ wl, H3 wl = none → BfSt H d wl J v (fun (k s : Nat) => k = s) [0] [0] (upd H3 wl (.lst [nV 0])) := fun wl hwl => by
        refine ⟨s3.trans (same_upd hwl), same_upd hwl _ _ hd3, upd_same, by simp, fun x hx => hx, fun x hx => ?_⟩
        rw [List.mem_singleton.mp hx]
        exact base0
      refine ⟨_, rfl, d, kd [0], rfl, hd3, fun wl hwl => ?_⟩
      have w0 : H wl = none := s3.free hwl
      have wd : wl ≠ d := (ne_of_none hd3 hwl).symm
      have wsl : wl ≠ sl := (ne_of_none hsl hwl).symm
      have st0 := st0w wl hwl
      have hsl4 := same_upd (o := .lst [nV 0]) hwl _ _ hsl
      rw [kd_keys]
      refine ⟨fun m σ H6 => ∃ v6 v7 v8 v9 ks ws, σ = [some (.ref lp), some (.ref a), some (nV v), some (.ref d), some (.ref sl), some (.ref wl), v6, v7, v8, v9] ∧ BfSt H d wl J v (fun (k s : Nat) => k = s) ks ws H6 ∧ H6 sl = some (.lst (sts.map nV)) ∧ m = mkM J.length ks ws ∧ m ≤ 4 * J.length, ⟨_, _, _, _, _, _, _, rfl, st0, hsl4, rfl, by unfold mkM; rw [List.length_singleton]; omega⟩, ?_⟩
      rintro m σ H6 ⟨v6, v7, v8, v9, ks, ws, rfl, st, hs6, rfl, m4⟩
      refine ⟨_, rfl, _, ws.length, rfl, .inl ⟨_, SqL.of st.w, (List.length_map ..).symm⟩, _, _, rfl, rfl, _, rfl, ?_⟩
      rcases List.eq_nil_or_concat ws with rfl | ⟨ws, x, rfl⟩
      · refine iteF ?_
        have kl := st.len
        refine ⟨_, rfl, d, kd ks, ks.map (fun (x : Nat) => (x : Int)), rfl, .inl st.d, kd_fst ks, by rw [List.length_map]; exact Nat.le_trans kl hn, fun ys p hperm hsort hp => ?_⟩
        obtain ⟨hs, rfl, hl, hm⟩ := sorted_N hperm
        rw [mapV]
        exact k _ p hs (st.s.free hp) (st.s.trans (same_upd hp)) upd_same (by omega) fun x hx => by
          obtain ⟨a1, k1, s1, b1, c1, d1⟩ := st.kp x ((hm x).mp hx)
          exact ⟨s1, (.inr (.inr (.inl ⟨z3, (show k1 = s1 from c1) ▸ Nat.lt_of_lt_of_le b1 kl⟩))), d1⟩
      rw [List.concat_eq_append] at *
      rw [decide_eq_true (show (0 : Int) < ((ws ++ [x]).length : Int) by simp)]
      refine iteT ⟨fun σ' H7 => ∃ m', m' < mkM J.length ks (ws ++ [x]) ∧ ∃ v6 v7 v8 v9 ks ws, σ' = [some (.ref lp), some (.ref a), some (nV v), some (.ref d), some (.ref sl), some (.ref wl), v6, v7, v8, v9] ∧ BfSt H d wl J v (fun (k s : Nat) => k = s) ks ws H7 ∧ H7 sl = some (.lst (sts.map nV)) ∧ m' = mkM J.length ks ws ∧ m' ≤ 4 * J.length, fun σ' H7 h => h, ?_⟩
      refine ⟨_, rfl, .inl ⟨rfl, _, SqL.of st.w⟩, wl, _, nV x, rfl, rfl, st.w, nV_last ws x, ?_⟩
      rw [nV_drop]
      have st1 : BfSt H d wl J v (fun (k s : Nat) => k = s) ks ws (upd H6 wl (.lst (ws.map nV))) := by
        refine ⟨same_put w0 st.s, ?_, upd_same, st.nd, fun y hy => st.wk y (List.mem_append_left _ hy), st.kp⟩
        rw [upd_ne wd.symm]
        exact st.d
      have hs7 : (upd H6 wl (.lst (ws.map nV))) sl = some (.lst (sts.map nV)) := by
        rw [upd_ne wsl.symm]
        exact hs6
      have hxk : x ∈ ks := st.wk x (by simp)
      have hx : x < J.length := (st.kp x hxk).1
      have mlt : mkM J.length ks ws < mkM J.length ks (ws ++ [x]) := by
        unfold mkM
        rw [List.length_append, List.length_singleton]
        omega
      generalize upd H6 wl (.lst (ws.map nV)) = H7 at st1 hs7 ⊢
      refine ⟨_, rfl, sl, rfl, ⟨_, SqL.of hs7⟩, ?_⟩
      refine for_it walk_list (fun j σ H8 => ∃ v7 v8 v9 ks2 ws2, σ = [some (.ref lp), some (.ref a), some (nV v), some (.ref d), some (.ref sl), some (.ref wl), some (nV x), v7, v8, v9] ∧ BfSt H d wl J v (fun (k s : Nat) => k = s) ks2 ws2 H8 ∧ H8 sl = some (.lst (sts.map nV)) ∧ mkM J.length ks2 ws2 ≤ mkM J.length ks ws ∧ ∀ y ∈ ks, y ∈ ks2) ⟨_, _, _, ks, ws, rfl, st1, hs7, Nat.le_refl _, fun y hy => hy⟩ (fun j σ H8 _ ⟨_, _, _, _, _, _, _, q, _⟩ => SqL.of q) ?_ ?_
      · rintro j y σ _ H8 hj ⟨v7, v8, v9, ks2, ws2, rfl, st2, hs8, hm, hsub⟩ ⟨rfl, hy⟩
        obtain ⟨g, hg, rfl⟩ := nV_at hy
        obtain ⟨m1, rfl, hstep⟩ := hsts g (List.mem_of_getElem? hg)
        have gl : ml J m1 v < J.length := M.ml_lt hv m1
        obtain ⟨r, e1, e2⟩ := M.at_row hx gl
        obtain ⟨xs, b, g1, g2, g3⟩ := (hJ.same st2.s).row e1
        refine ⟨_, rfl, _, rfl, _, _, _, _, rfl, rfl, g1, g2, _, rfl, _, _, _, _, rfl, rfl, g3, at_nV e2, ?_⟩
        refine ⟨_, rfl, _, rfl, d, _, rfl, DGet.k (k := kn (jn J x (ml J m1 v))) st2.d, _, rfl, ?_⟩
        rw [kd_some]
        by_cases hk2 : jn J x (ml J m1 v) ∈ ks2
        · rw [decide_eq_true hk2]
          exact iteF ⟨_, _, _, ks2, ws2, rfl, st2, hs8, hm, hsub⟩
        rw [decide_eq_false hk2]
        obtain ⟨st3, lt3, kn3⟩ := st2.put M hv d0 w0 wd (hsub x hxk) hstep hk2
        refine iteT ?_
        refine ⟨_, rfl, _, rfl, d, _, rfl, DPut.k (k := kn (jn J x (ml J m1 v))) st2.d (by rw [kd_len]; exact Nat.lt_of_lt_of_le kn3 (Nat.le_trans hn (by decide))), ?_⟩
        rw [kd_put]
        have hw8 : (upd H8 d (.dK (kd (insN ks2 (jn J x (ml J m1 v)))))) wl = some (.lst (ws2.map nV)) := by
          rw [upd_ne wd]
          exact st2.w
        have hws : ws2.length < sizeLine := by
          have a1 : ws2.length ≤ mkM J.length ks2 ws2 := Nat.le_add_left _ _
          exact Nat.lt_of_le_of_lt (show ws2.length ≤ 4000 by omega) (by decide)
        refine ⟨_, rfl, .inl ⟨rfl, _, SqL.of hw8⟩, _, rfl, wl, _, _, rfl, rfl, hw8, by rw [List.length_map]; exact hws, ?_⟩
        refine ⟨_, _, _, _, _, rfl, st3, ?_, by omega, fun y hy => mem_insN.mpr (.inl (hsub y hy))⟩
        rw [upd_ne wsl.symm, upd_ne sd]
        exact hs8
      · rintro σ H8 ⟨v7, v8, v9, ks2, ws2, rfl, st2, hs8, hm, _⟩
        exact ⟨_, by omega, _, _, _, _, ks2, ws2, rfl, st2, hs8, rfl, by omega⟩
end
end UC
set_option Elab.async false
set_option linter.all false
set_option maxRecDepth 100000
set_option maxHeartbeats 8000000
/-! Houses. -/
namespace UC
open PySem PySem.Spec PyProof.Rows L2
theorem bt_sub {A B : List Nat} (ha : Asc A) (hb : Asc B) (h : ∀ x ∈ A, x ∈ B) : bt A &&& bt B = bt A := by
  refine Nat.eq_of_testBit_eq fun i => ?_
  rw [Nat.testBit_and, bt_bit A ha, bt_bit B hb]
  by_cases q : i ∈ A
  · simp [q, h i q]
  · simp [q]
theorem and_not_zero {A B : List Nat} (ha : Asc A) (hb : Asc B) (h : ∀ x ∈ A, x ∈ B) : Builtin.bitAnd (bt A : Nat) (Builtin.bitNot (bt B : Nat)) = 0 := by
  have n0 : ¬ (0 : Int) ≤ Builtin.bitNot (bt B : Nat) := by
    show ¬ (0 : Int) ≤ -((bt B : Nat) : Int) - 1
    omega
  have e : (Builtin.bitNot (Builtin.bitNot (bt B : Nat))).toNat = bt B := by
    show (-(-((bt B : Nat) : Int) - 1) - 1).toNat = bt B
    omega
  unfold Builtin.bitAnd
  rw [decide_eq_true (Int.natCast_nonneg (bt A)), decide_eq_false n0]
  show ((bt A : Nat) : Int) - ((((bt A : Nat) : Int).toNat &&& (Builtin.bitNot (Builtin.bitNot (bt B : Nat))).toNat : Nat) : Int) = 0
  rw [e, Int.toNat_natCast, bt_sub ha hb h]
  omega
/-- who is led into B by u -/
def leadN (J : List (List Nat)) (B : List Nat) (u : Nat) : List Nat := (List.range J.length).filter fun i => B.contains (jn J u i)
theorem looks_at {J : List (List Nat)} {B : List Nat} (M : Mon J) {u : Nat} (hu : u < J.length) : (looksN J B)[u]? = some (bt (leadN J B u)) := by
  have e1 : J[u]? = some J[u] := List.getElem?_eq_getElem hu
  have hl : (J[u]).length = J.length := M.row _ (List.getElem_mem hu)
  unfold looksN leadN
  rw [List.getElem?_map, e1, Option.map_some, hl]
  have e : ∀ i, jn J u i = (J[u]).getD i 0 := fun i => by
    unfold jn
    rw [List.getD_eq_getElem?_getD (l := J), e1, Option.getD_some]
  simp only [e]
theorem leadN_asc (J : List (List Nat)) (B : List Nat) (u : Nat) : Asc (leadN J B u) := asc_filter (asc_range _)
theorem leadN_lt {J : List (List Nat)} {B : List Nat} {u x : Nat} (h : x ∈ leadN J B u) : x < J.length := List.mem_range.mp (List.mem_filter.mp h).1
section
variable {P : Program} {w : World} {K : PySem.W.Frag} {mg : Str → Option Value} {base : Heap}
def LawOk (z : Str) (ms : List Nat) (J : List (List Nat)) (ks : List Nat) (lo : Nat → List Nat) : Prop := ∀ l ∈ ks, ∀ v, v < J.length → ∀ s, HeldP z ms J.length s → ∀ x, x < J.length → jn J (ml J s v) x ∈ lo l → jn J v x ∈ lo l
def sp_is_lawful (K : PySem.W.Frag) : Sp := fun vs H Q _ => ∃ (lp a d : Addr) (z : Str) (ms : List Nat) (J : List (List Nat)) (ks : List Nat) (lo : Nat → List Nat), vs = [.ref lp, .ref a, .ref d] ∧ LotAt K H lp z ms ∧ LotOk z ms ∧ TblG H a J ∧ Mon J ∧ J.length ≤ 200 ∧
  LetAt H d ks lo ∧ LetOk J.length ks lo ∧ LawOk z ms J ks lo ∧ ∀ H', Same H H' → Q (.bl true) H'
theorem sc_is_lawful : FnScope ["lot", "joining", "letters", "held", "letter", "looks", "stand", "others", "other"] ["lot", "joining", "letters"] (defScope s_is_lawful) := ⟨rfl, rfl, rfl, by decide +kernel, rfl, by decide +kernel, by decide +kernel⟩
theorem ok_is_lawful (T : Txt K mg) : Pr P w K mg base 3 "is_lawful" ["lot", "joining", "letters"] (sp_is_lawful K) := by
  have G_held_of : Pr P w K mg base 2 "held_of" _ _ := ok_held_of T
  have G_looks_of : Pr P w K mg base 2 "looks_of" _ _ := ok_looks_of T
  refine T.d_is_lawful.pr sc_is_lawful (fun vs H Q E h => ?_) (fun _ _ _ _ _ _ us hl => match us, hl with | [_, _, _], _ => rfl) (fun f cdv A outer s H vs Q E hr h => ?_)
  · obtain ⟨lp, a, d, z, ms, J, ks, lo, rfl, _⟩ := h
    rfl
  · obtain ⟨lp, a, d, z, ms, J, ks, lo, rfl, hL, ok, hJ, M, hn, hD, lok, law, k⟩ := h
    have hu := hu_of hr
    refine ⟨_, (pss_cons (ps_setLc (i := 3) (own := [("stand", 6)]) (g := gName 6) (tt := tYes) rfl sc_is_lawful.nd rfl rfl (sw_true rfl rfl rfl (by decide +kernel)) (pi_range1 rfl T.b_range (pa_cons (pe_callB call_len rfl T.b_len (by decide +kernel) (pa_cons (pv 1) pa_nil)) pa_nil)) (blkOk_by (N := ["lot", "joining", "letters", "held", "letter", "looks", "stand", "others", "other"]) (sc := defScope s_is_lawful) (by decide +kernel)) (fun _ _ _ _ _ => (pg_n 6 sc_is_lawful.nd)) (fun _ _ _ _ _ => pts_nil) (fun _ _ _ _ _ => (pe_callP G_held_of hr (by decide) (pa_cons (pv 0) (pa_cons (pv 1) (pa_cons (pv 6) pa_nil))))))
    (pss_cons (ps_lock (ps_for PassesOwn.never rfl (pi_keys (pv 2)) (pg_n 4 sc_is_lawful.nd)
      (pss_cons (ps_s 5 sc_is_lawful.nd (pe_callP G_looks_of hr (by decide) (pa_cons (pv 1) (pa_cons (pe_dget hu (pv 2) (pv 4) (fun _ _ => rfl)) pa_nil))))
      (pss_one (ps_for PassesOwn.never rfl (pi_enum (by rfl) T.b_enumerate (pa_cons (pv 3) pa_nil)) (pg_tup rfl (pgs_cons (pg_n 6 sc_is_lawful.nd) (pgs_cons (pg_n 7 sc_is_lawful.nd) pgs_nil)))
        (pss_one (ps_if (pt_val (pe_callB (cr_any rfl) rfl T.b_any (by decide +kernel) (pa_cons (pe_lc (own := [("other", 8)]) (g := gName 8) (tt := tYes) rfl sc_is_lawful.nd (pi_list (pv 7)) (blkOk_by (N := ["lot", "joining", "letters", "held", "letter", "looks", "stand", "others", "other"]) (sc := defScope s_is_lawful) (by decide +kernel)) (fun _ _ _ _ _ => (pg_n 8 sc_is_lawful.nd)) (fun _ _ _ _ _ => pts_nil) (fun _ _ _ _ _ => (pe_cmpR op_ne (pe_op op_and (pe_ix (ix_listK (K := K) rfl) (pv 5) (pv 8) (fun _ _ => rfl)) (pe_un un_inv (pe_ix (ix_listK (K := K) rfl) (pv 5) (pv 6) (fun _ _ => rfl)))) pe_int (nomark _)))) pa_nil)))
          (pss_one (ps_ret pe_bl))
          pss_nil)))))))
    (pss_one (ps_ret pe_bl)))), ?_⟩
    simp only [st_c, st_n, st_0]
    obtain ⟨bs, hbs, hrows⟩ := id hJ
    have hbl : bs.length = J.length := pairedLen hrows
    obtain ⟨kvs, hd, hkeys, hval⟩ := hD.ex
    refine ⟨_, rfl, _, J.length, rfl, .inr ⟨_, SqT.of hbs, by rw [List.length_map, hbl]⟩, _, rfl, by omega, by omega, fun D hDn => ?_⟩
    refine lc_range (lo := 0) (n := J.length) (LcP H D (fun i acc H' => ∃ cs : List Addr, acc = cs.map V.ref ∧ Paired (fun c v => ∃ hs : List Nat, H' c = some (.lst (hs.map nV)) ∧ hs.length ≤ 1001 ∧ c ≠ D ∧ ∀ x ∈ hs, ∃ s, HeldP z ms J.length s ∧ x = ml J s v) cs (List.range i))) (LcP.zero hDn ⟨[], rfl, .nil⟩) ?_ fun H2 h2 => ?_
    · rintro i H1 hi ⟨acc, s1, hda, hle, cs, rfl, hp⟩
      rw [show (0 : Int) + (i : Int) = (i : Int) from Int.zero_add _]
      refine ⟨rfl, tyes ?_⟩
      refine ⟨_, rfl, _, rfl, _, rfl, lp, a, z, ms, J, i, rfl, hL.same s1, ok, (hJ.same s1).t, M, Nat.le_trans hn (by decide), hi, fun H3 p hs fr s3 hp3 hl3 hx3 => ?_⟩
      refine LcP.put hDn s1 hda hle (Nat.lt_of_lt_of_le hi (Nat.le_trans hn (by decide))) s3 ?_
      have npD : p ≠ D := fun e => by rw [e, hda] at fr; cases fr
      refine ⟨cs ++ [p], by rw [List.map_append]; rfl, ?_⟩
      rw [List.range_succ]
      refine pairedSnoc (Paired.mapP hp fun c v ⟨hs2, q1, q2, q3, q4⟩ => ⟨hs2, ?_, q2, q3, q4⟩) ⟨hs, ?_, hl3, npD, hx3⟩
      · rw [upd_ne q3]
        exact s3 _ _ q1
      · rw [upd_ne npD]
        exact hp3
    obtain ⟨acc, s2, hda, _, cs, rfl, hp⟩ := h2
    have hcl : cs.length = J.length := by rw [pairedLen hp, List.length_range]
    have hd2 := s2 _ _ hd
    have hJ2 := hJ.same s2
    have nDd : D ≠ d := (ne_of_none hd hDn).symm
    refine ⟨d, _, hd2, trivial, fun od => ?_⟩
    have hd0 : (upd H2 d (.frz od (.dK kvs))) d = some (.frz od (.dK kvs)) := upd_same
    have hJ0 := hJ2.keepX hd2 (sameX_upd (o := .frz od (.dK kvs)))
    have hD0 : (upd H2 d (.frz od (.dK kvs))) D = some (.lst (cs.map V.ref)) := by rw [upd_ne nDd]; exact hda
    have hp0 : Paired (fun c v => ∃ hs : List Nat, (upd H2 d (.frz od (.dK kvs))) c = some (.lst (hs.map nV)) ∧ hs.length ≤ 1001 ∧ ∀ x ∈ hs, ∃ s, HeldP z ms J.length s ∧ x = ml J s v) cs (List.range J.length) :=
      Paired.mapP hp fun c v ⟨hs2, q1, q2, q3, q4⟩ => ⟨hs2, by rw [upd_ne (fun e => by rw [e, hd2] at q1; cases q1)]; exact q1, q2, q4⟩
    refine ⟨_, rfl, d, od, rfl, .inl ⟨kvs, hd0, ?_⟩⟩
    refine for_it walk_keys (fun i σ H' => ∃ v4 v5 v6 v7 v8, σ = [some (.ref lp), some (.ref a), some (.ref d), some (.ref D), v4, v5, v6, v7, v8] ∧ Same (upd H2 d (.frz od (.dK kvs))) H') ⟨_, _, _, _, _, rfl, Same.refl _⟩ (fun i σ H' _ ⟨_, _, _, _, _, _, q⟩ => q _ _ hd0) ?_ ?_
    · rintro i x σ _ H' hi ⟨v4, v5, v6, v7, v8, rfl, s3⟩ ⟨rfl, ky, v, hkv, rfl⟩
      obtain ⟨l, hl, rfl⟩ : ∃ l ∈ ks, ky = kn l := by
        have hm : ky ∈ kvs.map (·.1) := List.mem_map.mpr ⟨_, List.mem_of_getElem? hkv, rfl⟩
        rw [hkeys] at hm
        obtain ⟨l, a, b⟩ := List.mem_map.mp hm
        exact ⟨l, a, b.symm⟩
      obtain ⟨b, hb1, hb2⟩ := hval l hl
      have hbd : b ≠ d := fun z => by rw [z, hd] at hb2; cases hb2
      have hb3 : (upd H2 d (.frz od (.dK kvs))) b = some (.tup ((lo l).map nV)) := by rw [upd_ne hbd]; exact s2 _ _ hb2
      refine ⟨_, rfl, _, rfl, _, rfl, d, _, rfl, .inl ⟨kvs, kn l, .inr ⟨od, s3 _ _ hd0⟩, rfl, hb1.symm⟩, a, b, J, lo l, rfl, (hJ0.same s3).t, SqT.of (s3 _ _ hb3), Nat.le_trans hn (by decide), fun r hr => by rw [M.row r hr]; exact Nat.le_trans hn (by decide), Nat.le_trans (asc_len (lok.lt l) (lok.asc l)) (Nat.le_trans hn (by decide)), fun H4 lk s4 hlk => ?_⟩
      have s34 := s3.trans s4
      refine ⟨_, rfl, D, _, rfl, SqL.of (s34 _ _ hD0), ?_⟩
      refine for_it walk_enum (fun j σ H5 => ∃ v6 v7 v8, σ = [some (.ref lp), some (.ref a), some (.ref d), some (.ref D), some (nV l), some (.ref lk), v6, v7, v8] ∧ Same H4 H5) ⟨_, _, _, rfl, Same.refl _⟩ (fun j σ H5 _ ⟨_, _, _, _, q⟩ => SqL.of (q _ _ (s34 _ _ hD0))) ?_ ?_
      · rintro j x σ H5 H6 hj ⟨v6, v7, v8, rfl, s5⟩ ⟨Tp, y, u, rfl, hTp, rfl, hy, hu2⟩
        cases hy
        obtain ⟨c, hc, rfl⟩ := ref_at hu2
        obtain ⟨jv, hjv, hs, hh, hhl, hhx⟩ := pairedAt2 hp0 hc
        have hjl : j < J.length := by rw [← hcl]; exact (List.getElem?_eq_some_iff.mp hc).1
        rw [List.getElem?_range hjl] at hjv
        cases hjv
        have t6 : Same H5 (upd H5 Tp (.tup [.int (j : Nat), .ref c])) := same_upd hTp
        refine ⟨Tp, _, rfl, SqT.of upd_same, rfl, _, _, rfl, _, _, rfl, rfl, ?_⟩
        generalize upd H5 Tp (.tup [.int (j : Nat), .ref c]) = H6 at t6 ⊢
        have s56 := s5.trans t6
        have hc6 := (s34.trans s56) _ _ hh
        refine ⟨_, rfl, c, rfl, ⟨_, SqL.of hc6⟩, fun D2 hD2 => ?_⟩
        refine lc_it walk_list (LcP H6 D2 (RB false)) (LcP.zero hD2 rfl) (fun i H1 _ ⟨_, s1, _⟩ => SqL.of (s1 _ _ hc6)) ?_ fun H7 h7 => ?_
        · rintro q x H7 _ hq ⟨acc, s7, hda7, hle7, e7⟩ ⟨rfl, hx⟩
          obtain ⟨o, ho, rfl⟩ := nV_at hx
          obtain ⟨t, ht, rfl⟩ := hhx o (List.mem_of_getElem? ho)
          have ol := M.ml_lt hjl t
          have hlk7 := (s56.trans s7).seq hlk
          refine ⟨rfl, tyes ?_⟩
          refine ⟨_, rfl, _, rfl, lk, _, _, _, rfl, rfl, hlk7, at_nV (looks_at M ol), _, rfl, _, rfl, lk, _, _, _, rfl, rfl, hlk7, at_nV (looks_at M hjl), ?_⟩
          refine ⟨_, rfl, _, _, rfl, rfl, rfl, ?_⟩
          have sub : ∀ x ∈ leadN J (lo l) (ml J t j), x ∈ leadN J (lo l) j := fun x hx => by
            have xl := leadN_lt hx
            have e := (List.mem_filter.mp hx).2
            exact List.mem_filter.mpr ⟨(List.mem_filter.mp hx).1, by simpa using law l hl j hjl t ht x xl (by simpa using e)⟩
          dsimp only
          rw [decide_eq_true (congrArg V.int (and_not_zero (leadN_asc ..) (leadN_asc ..) sub))]
          exact putB hD2 s7 hda7 hle7 e7 (Nat.lt_of_lt_of_le hq (by rw [List.length_map]; exact Nat.le_trans hhl (by decide))) (Same.refl _)
        obtain ⟨cs7, hq7, eb7, s7⟩ := finAny (K := K) h7
        refine ⟨D2, cs7, rfl, hq7, ?_⟩
        rw [eb7]
        exact ⟨false, rfl, iteF ⟨_, _, _, rfl, s56.trans s7⟩⟩
      · rintro σ H5 ⟨v6, v7, v8, rfl, s5⟩
        exact ⟨_, _, _, _, _, rfl, s34.trans s5⟩
    · rintro σ H' ⟨v4, v5, v6, v7, v8, rfl, s3⟩
      obtain ⟨u1, u2⟩ := unfrz hd2 s3
      exact ⟨u1, k _ (s2.trans u2)⟩
/-! a house as it stands in the heap -/
structure KeptAt (H : Hp) (d : Addr) (lo : Nat → List Nat) : Prop where
  ex : ∃ kvs : List (Key × V), H d = some (.dK kvs) ∧ ∀ l : Nat, (lo l = [] ∧ valV kvs (kn l) = none) ∨ (lo l ≠ [] ∧ ∃ b, valV kvs (kn l) = some (.ref b) ∧ H b = some (.tup ((lo l).map nV)))
structure HouseAt (K : PySem.W.Frag) (H : Hp) (p lp : Addr) (J : List (List Nat)) (lo : Nat → List Nat) : Prop where
  ex : ∃ (dx ja d : Addr), H p = some (.ins (He.ga K "House") dx [("lot", .ref lp), ("joining", .ref ja), ("kept_letters", .ref d)]) ∧ TblG H ja J ∧ KeptAt H d lo
theorem KeptAt.same {H H' : Hp} {d : Addr} {lo : Nat → List Nat} (e : Same H H') (h : KeptAt H d lo) : KeptAt H' d lo := by
  obtain ⟨kvs, h1, h2⟩ := h.ex
  exact ⟨kvs, e _ _ h1, fun l => (h2 l).imp id fun ⟨a, b, c, q⟩ => ⟨a, b, c, e _ _ q⟩⟩
theorem HouseAt.same {K : PySem.W.Frag} {H H' : Hp} {p lp : Addr} {J : List (List Nat)} {lo : Nat → List Nat} (e : Same H H') (h : HouseAt K H p lp J lo) : HouseAt K H' p lp J lo := by
  obtain ⟨dx, ja, d, h1, h2, h3⟩ := h.ex
  exact ⟨dx, ja, d, e _ _ h1, h2.same e, h3.same e⟩
theorem TblG.keepI {H H' : Hp} {a x : Addr} {J : List (List Nat)} {C dx : Addr} {fs : List (Str × V)} (hx : H x = some (.ins C dx fs)) (e : SameX x H H') (h : TblG H a J) : TblG H' a J := by
  have nt : ∀ (p : Addr) (xs : List V), H p = some (.tup xs) → p ≠ x := fun p xs q z => by rw [z, hx] at q; cases q
  obtain ⟨bs, h1, h2⟩ := h
  exact ⟨bs, e _ _ (nt _ _ h1) h1, Paired.mapP h2 fun _ _ q => e _ _ (nt _ _ q) q⟩
theorem putK_len (kvs : List (Key × V)) (k : Key) (v : V) : (putK kvs k v).length ≤ kvs.length + 1 := by
  unfold putK
  split
  · rw [List.length_map]
    omega
  · rw [List.length_append]
    exact Nat.le_refl _
def sp_House_keep (K : PySem.W.Frag) : Sp := fun vs H Q _ => ∃ (x lp a d dx : Addr) (J : List (List Nat)) (ks : List Nat) (lo : Nat → List Nat), vs = [.ref x, .ref lp, .ref a, .ref d] ∧ H x = some (.ins (He.ga K "House") dx []) ∧ TblG H a J ∧ LetAt H d ks lo ∧ LetOk J.length ks lo ∧ J.length ≤ 200 ∧ ks.length ≤ 26 ∧
  ∀ H', SameX x H H' → HouseAt K H' x lp J lo → Q .non H'
theorem sc_House_keep : FnScope ["self", "lot", "joining", "letters", "letter"] ["self", "lot", "joining", "letters"] (defScope s_House_keep) := ⟨rfl, rfl, rfl, by decide +kernel, rfl, by decide +kernel, by decide +kernel⟩
theorem ok_House_keep (T : Txt K mg) : PrM P w K mg base 1 "House" "keep" ["self", "lot", "joining", "letters"] (sp_House_keep K) := by
  refine T.d_House_keep.pr sc_House_keep (fun vs H Q E h => ?_) (fun _ _ _ _ _ _ us hl => match us, hl with | [_, _, _, _], _ => rfl) (fun f cdv A outer s H vs Q E hr h => ?_)
  · obtain ⟨x, lp, a, d, dx, J, ks, lo, rfl, _⟩ := h
    rfl
  · obtain ⟨x, lp, a, d, dx, J, ks, lo, rfl, hx, hJ, hD, lok, hn, hk26, k⟩ := h
    have hu := hu_of hr
    refine ⟨_, (pss_cons (ps_fld (pv 0) (pv 1) rfl)
    (pss_cons (ps_fld (pv 0) (pv 2) rfl)
    (pss_one (ps_fld (pv 0) (pe_lock (pe_dc (own := [("letter", 4)]) (g := gName 4) rfl sc_House_keep.nd (pi_keys (pv 3)) (blkOk_by (N := ["self", "lot", "joining", "letters", "letter"]) (sc := defScope s_House_keep) (by decide +kernel)) (fun _ _ _ _ _ => (pg_n 4 sc_House_keep.nd)) (fun _ _ _ _ _ => (pts_one (pt_cmpR op_gt (pe_callB (call_lenK (K := K) (by rfl)) (by rfl) T.b_len (by decide +kernel) (pa_cons (pe_dget hu (pv 3) (pv 4) (fun _ _ => rfl)) pa_nil)) pe_int (nomark _)))) (fun _ _ _ _ _ => (pv 4)) (fun _ _ _ _ _ => (pe_dget hu (pv 3) (pv 4) (fun _ _ => rfl))))) rfl)))), ?_⟩
    simp only [st_c, st_n, st_0]
    obtain ⟨kvs, hd, hkeys, hval⟩ := hD.ex
    have ndx : d ≠ x := fun e => by rw [e, hx] at hd; cases hd
    refine ⟨_, rfl, _, rfl, x, _, _, _, rfl, hx, T.o_House.cl, T.n_House_lot, (Nat.le_of_ble_eq_true rfl), ?_⟩
    refine ⟨_, rfl, _, rfl, x, _, _, _, rfl, upd_same, T.o_House.cl, T.n_House_joining, (Nat.le_of_ble_eq_true rfl), ?_⟩
    have sx : SameX x H (upd (upd H x (.ins (He.ga K "House") dx (putF "lot" (.ref lp) []))) x (.ins (He.ga K "House") dx (putF "joining" (.ref a) (putF "lot" (.ref lp) [])))) := fun b o nb q => by
      rw [upd_ne nb, upd_ne nb]
      exact q
    have hx2 : (upd (upd H x (.ins (He.ga K "House") dx (putF "lot" (.ref lp) []))) x (.ins (He.ga K "House") dx (putF "joining" (.ref a) (putF "lot" (.ref lp) [])))) x = some (.ins (He.ga K "House") dx (putF "joining" (.ref a) (putF "lot" (.ref lp) []))) := upd_same
    generalize upd (upd H x (.ins (He.ga K "House") dx (putF "lot" (.ref lp) []))) x (.ins (He.ga K "House") dx (putF "joining" (.ref a) (putF "lot" (.ref lp) []))) = H2 at sx hx2 ⊢
    have hd2 := sx _ _ ndx hd
    refine ⟨d, _, hd2, trivial, fun od => ?_⟩
    have hd0 : (upd H2 d (.frz od (.dK kvs))) d = some (.frz od (.dK kvs)) := upd_same
    have hb0 : ∀ (l : Nat) (b : Addr), H b = some (.tup ((lo l).map nV)) → (upd H2 d (.frz od (.dK kvs))) b = some (.tup ((lo l).map nV)) := fun l b q => by
      rw [upd_ne (fun e => by rw [e, hd] at q; cases q)]
      exact sx _ _ (fun e => by rw [e, hx] at q; cases q) q
    have kl : kvs.length = ks.length := by have := congrArg List.length hkeys; simpa using this
    refine ⟨_, rfl, d, od, rfl, .inl ⟨kvs, hd0, fun D hDn => ?_⟩⟩
    refine dc_it walk_keys (fun i H' => ∃ qs : List (Key × V), Same (upd H2 d (.frz od (.dK kvs))) H' ∧ H' D = some (.dK qs) ∧ qs.length ≤ i ∧ ∀ l : Nat, (l ∈ ks.take i ∧ lo l ≠ [] → valV qs (kn l) = valV kvs (kn l)) ∧ (¬ (l ∈ ks.take i ∧ lo l ≠ []) → valV qs (kn l) = none)) ⟨[], same_upd hDn, upd_same, Nat.le_refl _, fun l => ⟨fun ⟨q, _⟩ => by simp at q, fun _ => rfl⟩⟩ (fun i H' _ ⟨_, q, _⟩ => q _ _ hd0) ?_ ?_
    · rintro i x2 H' _ hi ⟨qs, s1, hq, ql, hqs⟩ ⟨rfl, ky, v, hkv, rfl⟩
      obtain ⟨l, hl, rfl⟩ : ∃ l, ks[i]? = some l ∧ ky = kn l := by
        have hm : (kvs.map (·.1))[i]? = some ky := by rw [List.getElem?_map, hkv]; rfl
        rw [hkeys, List.getElem?_map] at hm
        cases e : ks[i]? with
        | none => rw [e] at hm; cases hm
        | some n => rw [e] at hm; exact ⟨n, rfl, (Option.some.inj hm).symm⟩
      have lk := List.mem_of_getElem? hl
      obtain ⟨b, hb1, hb2⟩ := hval l lk
      have hb3 := s1 _ _ (hb0 l b hb2)
      have get : ∀ H3, Same (upd H2 d (.frz od (.dK kvs))) H3 → DGet H3 d (kV (kn l)) (some (.ref b)) := fun H3 e => .inl ⟨kvs, kn l, .inr ⟨od, e _ _ hd0⟩, rfl, hb1.symm⟩
      refine ⟨rfl, ?_⟩
      have il : i < ks.length := (List.getElem?_eq_some_iff.mp hl).1
      have tk : ∀ j : Nat, j ∈ ks.take (i + 1) ↔ j ∈ ks.take i ∨ j = l := fun j => by
        rw [List.take_add_one, hl]
        simp
      refine ⟨_, rfl, _, rfl, d, _, rfl, get _ s1, _, (lo l).length, rfl, .inr ⟨_, SqT.of hb3, (List.length_map ..).symm⟩, _, _, rfl, rfl, _, rfl, ?_⟩
      by_cases e : lo l = []
      · rw [e]
        refine iteF ⟨qs, s1, hq, Nat.le_succ_of_le ql, fun j => ⟨fun ⟨q1, q2⟩ => ?_, fun q => ?_⟩⟩
        · rcases (tk j).mp q1 with q | q
          · exact (hqs j).1 ⟨q, q2⟩
          · rw [q] at q2
            exact absurd e q2
        · exact (hqs j).2 fun ⟨q1, q2⟩ => q ⟨(tk j).mpr (.inl q1), q2⟩
      · rw [decide_eq_true (show (0 : Int) < ((lo l).length : Int) by have := List.length_pos_iff.mpr e; omega)]
        refine iteT ⟨_, rfl, _, rfl, _, rfl, d, _, rfl, get _ s1, qs, kn l, rfl, hq, ?_, putK qs (kn l) (.ref b), same_put hDn s1, upd_same, ?_, fun j => ?_⟩
        · exact Nat.lt_of_le_of_lt ql (Nat.lt_of_lt_of_le hi (by rw [kl]; exact Nat.le_trans hk26 (by decide)))
        · refine Nat.le_trans (putK_len qs _ _) (Nat.succ_le_succ ql)
        · rw [valV_put]
          by_cases ej : j = l
          · subst ej
            rw [if_pos rfl, hb1]
            exact ⟨fun _ => rfl, fun q => absurd ⟨(tk j).mpr (.inr rfl), e⟩ q⟩
          · rw [if_neg fun z => ej (kn_inj.mp z)]
            refine ⟨fun ⟨q1, q2⟩ => (hqs j).1 ⟨((tk j).mp q1).resolve_right ej, q2⟩, fun q => (hqs j).2 fun ⟨q1, q2⟩ => q ⟨(tk j).mpr (.inl q1), q2⟩⟩
    · rintro H3 ⟨qs, s1, hq, ql, hqs⟩
      obtain ⟨u1, u2⟩ := unfrz hd2 s1
      refine ⟨u1, ?_⟩
      have nDd : D ≠ d := (ne_of_none hd0 hDn).symm
      have nDx : D ≠ x := fun e => by
        have := (sameX_upd (o := .frz od (.dK kvs))) x _ ndx.symm hx2
        rw [e, this] at hDn
        cases hDn
      refine ⟨_, rfl, x, _, _, _, rfl, u2 _ _ hx2, T.o_House.cl, T.n_House_kept_letters, (Nat.le_of_ble_eq_true rfl), ?_⟩
      have sx2 : SameX x H (upd (upd H3 d (.dK kvs)) x (.ins (He.ga K "House") dx (putF "kept_letters" (.ref D) (putF "joining" (.ref a) (putF "lot" (.ref lp) []))))) := fun b o nb q => by
        rw [upd_ne nb]
        exact u2 _ _ (sx _ _ nb q)
      refine k _ sx2 ⟨dx, a, D, upd_same, hJ.keepI hx sx2, qs, ?_, fun l => ?_⟩
      · rw [upd_ne nDx, upd_ne nDd]
        exact hq
      · rw [show kvs.length = ks.length from kl, List.take_length] at hqs
        by_cases e : lo l = []
        · exact .inl ⟨e, (hqs l).2 fun ⟨_, q⟩ => q e⟩
        · have lk : l ∈ ks := (Classical.em (l ∈ ks)).resolve_right fun z => e (lok.out l z)
          obtain ⟨b, hb1, hb2⟩ := hval l lk
          exact .inr ⟨e, b, by rw [(hqs l).1 ⟨lk, e⟩, hb1], sx2 _ _ (fun e2 => by rw [e2, hx] at hb2; cases hb2) hb2⟩
/-! House(lot, joining, letters) -/
def sp_House_init (K : PySem.W.Frag) : Sp := fun vs H Q _ => ∃ (x lp a d dx : Addr) (z : Str) (ms : List Nat) (J : List (List Nat)) (ks : List Nat) (lo : Nat → List Nat), vs = [.ref x, .ref lp, .ref a, .ref d] ∧ H x = some (.ins (He.ga K "House") dx []) ∧ LotAt K H lp z ms ∧ LotOk z ms ∧
  TblG H a J ∧ Mon J ∧ J.length ≤ 200 ∧ LetAt H d ks lo ∧ LetOk J.length ks lo ∧ ks.length ≤ 26 ∧ LawOk z ms J ks lo ∧ ∀ H', SameX x H H' → HouseAt K H' x lp J lo → Q .non H'
theorem sc_House_init : FnScope ["self", "lot", "joining", "letters"] ["self", "lot", "joining", "letters"] (defScope s_House_init) := ⟨rfl, rfl, rfl, by decide +kernel, rfl, by decide +kernel, by decide +kernel⟩
theorem ok_House_init (T : Txt K mg) : PrM P w K mg base 4 "House" "__init__" ["self", "lot", "joining", "letters"] (sp_House_init K) := by
  have G_is_joining : Pr P w K mg base 3 "is_joining" _ _ := ok_is_joining T
  have G_are_letters : Pr P w K mg base 3 "are_letters" _ _ := ok_are_letters T
  have G_is_lawful : Pr P w K mg base 3 "is_lawful" _ _ := ok_is_lawful T
  have G_House_keep : PrM P w K mg base 1 "House" "keep" _ _ := ok_House_keep T
  refine T.d_House_init.pr sc_House_init (fun vs H Q E h => ?_) (fun _ _ _ _ _ _ us hl => match us, hl with | [_, _, _, _], _ => rfl) (fun f cdv A outer s H vs Q E hr h => ?_)
  · obtain ⟨x, lp, a, d, dx, z, ms, J, ks, lo, rfl, _⟩ := h
    rfl
  · obtain ⟨x, lp, a, d, dx, z, ms, J, ks, lo, rfl, hx, hL, ok, hJ, M, hn, hD, lok, hk26, law, k⟩ := h
    refine ⟨_, (pss_cons (ps_if (pt_not (pt_val (pe_callB call_isi rfl T.b_isinstance (by decide +kernel) (pa_cons (pv 1) (pa_cons (pe_glob (v := .ref (He.ga K "Lot")) (by rfl) T.g_Lot rfl) pa_nil)))))
      (pss_one ps_never)
      pss_nil)
    (pss_cons (ps_if (pt_not (pt_val (pe_callP G_is_joining hr (by decide) (pa_cons (pv 2) pa_nil))))
      (pss_one ps_never)
      pss_nil)
    (pss_cons (ps_if (pt_not (pt_val (pe_callP G_are_letters hr (by decide) (pa_cons (pv 3) (pa_cons (pe_callB call_len rfl T.b_len (by decide +kernel) (pa_cons (pv 2) pa_nil)) pa_nil)))))
      (pss_one ps_never)
      pss_nil)
    (pss_cons (ps_if (pt_not (pt_val (pe_callP G_is_lawful hr (by decide) (pa_cons (pv 1) (pa_cons (pv 2) (pa_cons (pv 3) pa_nil))))))
      (pss_one ps_never)
      pss_nil)
    (pss_one (ps_expr (pe_methP G_House_keep T.t_House_keep T.o_House.cl hr (by decide) (pv 0) (pa_cons (pv 1) (pa_cons (pv 2) (pa_cons (pv 3) pa_nil)))))))))), ?_⟩
    simp only [st_c, st_n, st_0]
    obtain ⟨dl, mk, lz, l1, l2⟩ := hL.ex
    refine ⟨_, rfl, _, _, _, _, true, rfl, .own _, T.o_Lot.ty l1, kit_own _, true, rfl, iteF ?_⟩
    refine ⟨_, rfl, a, J, rfl, hJ, M, hn, fun H1 s1 => ⟨true, rfl, iteF ?_⟩⟩
    obtain ⟨bs, hbs, hrows⟩ := hJ.same s1
    have hbl : bs.length = J.length := pairedLen hrows
    refine ⟨_, rfl, _, rfl, _, J.length, rfl, .inr ⟨_, SqT.of hbs, by rw [List.length_map, hbl]⟩, d, ks, lo, J.length, rfl, hD.same s1, lok, Nat.le_trans hn (by decide), fun H2 s2 => ⟨true, rfl, iteF ?_⟩⟩
    have s12 := s1.trans s2
    refine ⟨_, rfl, _, rfl, _, rfl, lp, a, d, z, ms, J, ks, lo, rfl, hL.same s12, ok, hJ.same s12, M, hn, hD.same s12, lok, law, fun H3 s3 => ⟨true, rfl, iteF ?_⟩⟩
    have s13 := s12.trans s3
    refine ⟨_, rfl, x, dx, _, rfl, s13 _ _ hx, rfl, _, rfl, _, rfl, _, rfl, x, lp, a, d, dx, J, ks, lo, rfl, s13 _ _ hx, hJ.same s13, hD.same s13, lok, hn, hk26, fun H4 s4 hh => k H4 (fun b o nb q => s4 b o nb (s13 _ _ q)) hh⟩
end
end UC
set_option Elab.async false
set_option linter.all false
set_option maxRecDepth 100000
set_option maxHeartbeats 8000000
/-! has_of: the loop that looks at a kind's parts first. -/
namespace UC
open PySem PySem.Spec PyProof.Rows L2
/-- the stands that have a kind -/
def stN (J : List (List Nat)) (lo : Nat → List Nat) : Kd → List Nat
  | .lt n => lo n
  | .ar a b => (List.range J.length).filter fun u => (stN J lo a).all fun v => (stN J lo b).contains (jn J u v)
theorem stN_asc {J : List (List Nat)} {lo : Nat → List Nat} (h : ∀ l, Asc (lo l)) : ∀ k, Asc (stN J lo k)
  | .lt n => h n
  | .ar _ _ => asc_filter (asc_range _)
theorem stN_lt {J : List (List Nat)} {lo : Nat → List Nat} (h : ∀ l, ∀ x ∈ lo l, x < J.length) : ∀ k, ∀ x ∈ stN J lo k, x < J.length
  | .lt n => h n
  | .ar _ _ => fun x hx => List.mem_range.mp (List.mem_filter.mp hx).1
/-- the loop's turns: the stack (its top first), the kinds that are known, how many turns are left -/
inductive Runs : List Kd → List Kd → Nat → Prop where
  | nil {ys : List Kd} : Runs [] ys 0
  | pop {k : Kd} {S ys : List Kd} {m : Nat} (h : k ∈ ys) (t : Runs S ys m) : Runs (k :: S) ys (m + 1)
  | letter {n : Nat} {S ys : List Kd} {m : Nat} (h : Kd.lt n ∉ ys) (t : Runs (.lt n :: S) (ys ++ [.lt n]) m) : Runs (.lt n :: S) ys (m + 1)
  | push {a b : Kd} {S ys : List Kd} {m : Nat} (h : Kd.ar a b ∉ ys) (g : ¬ (a ∈ ys ∧ b ∈ ys)) (t : Runs ((if b ∈ ys then [] else [b]) ++ ((if a ∈ ys then [] else [a]) ++ .ar a b :: S)) ys m) : Runs (.ar a b :: S) ys (m + 1)
  | done {a b : Kd} {S ys : List Kd} {m : Nat} (h : Kd.ar a b ∉ ys) (ha : a ∈ ys) (hb : b ∈ ys) (t : Runs (.ar a b :: S) (ys ++ [.ar a b]) m) : Runs (.ar a b :: S) ys (m + 1)
theorem Runs.len {S ys : List Kd} {m : Nat} (h : Runs S ys m) : S.length ≤ m := by
  induction h with
  | nil => exact Nat.le_refl _
  | pop _ _ ih => exact Nat.succ_le_succ ih
  | letter _ _ ih => exact Nat.le_succ_of_le ih
  | push _ _ _ ih =>
    rw [List.length_append, List.length_append] at ih
    omega
  | done _ _ _ _ ih => exact Nat.le_succ_of_le ih
/-- a kind on the stack is dealt with, then what is below -/
theorem runs_kind : ∀ (k : Kd) (S ys : List Kd) (M : Nat), (∀ zs, (∀ y ∈ ys, y ∈ zs) → k ∈ zs → ∃ m, m ≤ M ∧ Runs S zs m) → ∃ m, m + 4 ≤ M + 6 * k.size ∧ Runs (k :: S) ys m
  | .lt n, S, ys, M, h => by
    by_cases q : Kd.lt n ∈ ys
    · obtain ⟨m, a, b⟩ := h ys (fun y hy => hy) q
      exact ⟨m + 1, by show m + 1 + 4 ≤ M + 6 * 1; omega, .pop q b⟩
    · obtain ⟨m, a, b⟩ := h (ys ++ [.lt n]) (fun y hy => List.mem_append_left _ hy) (by simp)
      exact ⟨m + 2, by show m + 2 + 4 ≤ M + 6 * 1; omega, .letter q (.pop (by simp) b)⟩
  | .ar a b, S, ys, M, h => by
    have sa := Kd.size_pos a
    have sb := Kd.size_pos b
    have sz : (Kd.ar a b).size = a.size + b.size := rfl
    by_cases q : Kd.ar a b ∈ ys
    · obtain ⟨m, c, d⟩ := h ys (fun y hy => hy) q
      exact ⟨m + 1, by omega, .pop q d⟩
    have last : ∀ zs, (∀ y ∈ ys, y ∈ zs) → a ∈ zs → b ∈ zs → ∃ m, m ≤ M + 2 ∧ Runs (.ar a b :: S) zs m := fun zs hz ha hb => by
      by_cases q2 : Kd.ar a b ∈ zs
      · obtain ⟨m, c, d⟩ := h zs hz q2
        exact ⟨m + 1, by omega, .pop q2 d⟩
      · obtain ⟨m, c, d⟩ := h (zs ++ [.ar a b]) (fun y hy => List.mem_append_left _ (hz y hy)) (by simp)
        exact ⟨m + 2, by omega, .done q2 ha hb (.pop (by simp) d)⟩
    by_cases g : a ∈ ys ∧ b ∈ ys
    · obtain ⟨m, c, d⟩ := last ys (fun y hy => hy) g.1 g.2
      exact ⟨m, by omega, d⟩
    have goA : ∀ zs, (∀ y ∈ ys, y ∈ zs) → b ∈ zs → ∃ m, m + 2 ≤ M + 6 * a.size ∧ Runs ((if a ∈ ys then [] else [a]) ++ .ar a b :: S) zs m := fun zs hz hb => by
      by_cases qa : a ∈ ys
      · rw [if_pos qa]
        obtain ⟨m, c, d⟩ := last zs hz (hz a qa) hb
        exact ⟨m, by omega, d⟩
      · rw [if_neg qa]
        obtain ⟨m, c, d⟩ := runs_kind a (.ar a b :: S) zs (M + 2) fun xs hx ha => last xs (fun y hy => hx y (hz y hy)) ha (hx b hb)
        exact ⟨m, by omega, d⟩
    have goB : ∃ m, m + 6 ≤ M + 6 * a.size + 6 * b.size ∧ Runs ((if b ∈ ys then [] else [b]) ++ ((if a ∈ ys then [] else [a]) ++ .ar a b :: S)) ys m := by
      by_cases qb : b ∈ ys
      · rw [if_pos qb]
        obtain ⟨m, c, d⟩ := goA ys (fun y hy => hy) qb
        exact ⟨m, by omega, d⟩
      · rw [if_neg qb]
        obtain ⟨m, c, d⟩ := runs_kind b ((if a ∈ ys then [] else [a]) ++ .ar a b :: S) ys (M + 6 * a.size - 2) fun xs hx hb => by
          obtain ⟨m, c, d⟩ := goA xs hx hb
          exact ⟨m, by omega, d⟩
        exact ⟨m, by omega, d⟩
    obtain ⟨m, c, d⟩ := goB
    exact ⟨m + 1, by omega, .push q g d⟩
theorem runs_start (k : Kd) (ys : List Kd) : ∃ m, m ≤ 6 * k.size ∧ Runs [k] ys m := by
  obtain ⟨m, a, b⟩ := runs_kind k [] ys 0 fun zs _ _ => ⟨0, Nat.le_refl _, .nil⟩
  exact ⟨m, by omega, b⟩
/-- kinds and values of a stack, kinds of a dict -/
def kdsOf (S : List (Kd × V)) : List Kd := S.map fun t => t.1
def vlsOf (S : List (Kd × V)) : List V := S.map fun t => t.2
def ksOf (ys : List KnY) : List Kd := ys.map fun e => e.1
theorem ksOf_snoc (ys : List KnY) (e : KnY) : ksOf (ys ++ [e]) = ksOf ys ++ [e.1] := List.map_append
theorem vls_last (ts : List (Kd × V)) (t : Kd × V) : (vlsOf (ts ++ [t]))[(vlsOf (ts ++ [t])).length - 1]? = some t.2 := snd_last ts t
theorem vls_drop (ts : List (Kd × V)) (t : Kd × V) : (vlsOf (ts ++ [t])).dropLast = vlsOf ts := snd_drop ts t
theorem vls_neg (ts : List (Kd × V)) (t : Kd × V) : atI (vlsOf (ts ++ [t])) (-1) = some t.2 := by
  have e : (vlsOf (ts ++ [t])).length = ts.length + 1 := by unfold vlsOf; rw [List.length_map, List.length_append]; rfl
  have h := vls_last ts t
  unfold atI ixN
  rw [if_neg (by decide), if_pos (by rw [e]; omega)]
  rw [show ((-1 : Int) + ((vlsOf (ts ++ [t])).length : Int)).toNat = (vlsOf (ts ++ [t])).length - 1 by rw [e]; omega]
  exact h
theorem knGet_mem (ys : List KnY) (k : Kd) : (knGet ys k).isSome = decide (k ∈ ksOf ys) := by
  unfold knGet ksOf
  induction ys with
  | nil => rfl
  | cons y ys ih =>
    rw [List.find?_cons]
    by_cases e : y.1 = k
    · simp [e]
    · have e2 : (decide (y.1 = k)) = false := decide_eq_false e
      rw [e2]
      dsimp only
      rw [ih, List.map_cons, decide_eq_decide, List.mem_cons]
      exact ⟨.inr, fun q => q.resolve_left fun z => e z.symm⟩
theorem knGet_some {ys : List KnY} {k : Kd} (h : k ∈ ksOf ys) : ∃ e ∈ ys, e.1 = k ∧ knGet ys k = some e.2.2 := by
  have q := knGet_mem ys k
  rw [decide_eq_true h] at q
  unfold knGet at q ⊢
  cases e : ys.find? fun y => decide (y.1 = k) with
  | none => rw [e] at q; cases q
  | some y => exact ⟨y, List.mem_of_find?_eq_some e, of_decide_eq_true (List.find?_some (p := fun y : KnY => decide (y.1 = k)) e), rfl⟩
theorem knGet_none {ys : List KnY} {k : Kd} (h : k ∉ ksOf ys) : knGet ys k = none := by
  have q := knGet_mem ys k
  rw [decide_eq_false h] at q
  cases e : knGet ys k with
  | none => rfl
  | some v => rw [e] at q; cases q
/-- kinds with their values: parts are among them, no two deep ones of one hash -/
structure HasU (w : World) (H : Hp) (U : Kd → V → Prop) : Prop where
  at_ : ∀ k v, U k v → KdAt H k v ∧ k.depth ≤ 40
  part : ∀ a b p x y, U (.ar a b) (.ref p) → H p = some (.tup [x, y]) → U a x ∧ U b y
  safe : ∀ k1 v1 k2 v2, U k1 v1 → U k2 v2 → k1.key.hash w = k2.key.hash w → (k1 = k2 ∧ v1 = v2 ∧ ∃ a, v2 = .ref a) ∨ (k1.depth ≤ 8 ∧ k2.depth ≤ 8)
theorem KdAt.keepE {H H' : Hp} {d : Addr} {o : HO} (hd : H d = some o) (no : ∀ xs, o ≠ .tup xs) (e : SameX d H H') : ∀ {k : Kd} {v : V}, KdAt H k v → KdAt H' k v
  | .lt _, _, q => q
  | .ar _ _, _, ⟨p, x, y, h1, h2, h3, h4⟩ => ⟨p, x, y, h1, e _ _ (fun z => by rw [z, hd] at h2; exact no _ (Option.some.inj h2)) h2, KdAt.keepE hd no e h3, KdAt.keepE hd no e h4⟩
/-- the entries of the dict of what is known -/
def KnGood (U : Kd → V → Prop) (J : List (List Nat)) (lo : Nat → List Nat) (ys : List KnY) : Prop := ∀ e ∈ ys, U e.1 e.2.1 ∧ e.2.2 = nV (bt (stN J lo e.1))
section
variable {P : Program} {w : World} {K : PySem.W.Frag} {mg : Str → Option Value} {base : Heap}
theorem HasU.ask {w : World} {H H' : Hp} {U : Kd → V → Prop} {d : Addr} {ys0 ys : List KnY} {J : List (List Nat)} {lo : Nat → List Nat} (u : HasU w H U) (hd0 : H d = some (KnO w d ys0)) (e : SameX d H H') (hd : H' d = some (KnO w d ys)) (g : KnGood U J lo ys) {k : Kd} {v : V} (hk : U k v) : KnAsk w H' (.ref d) v d ys k := by
  have no : ∀ xs, KnO w d ys0 ≠ .tup xs := fun xs z => nomatch z
  refine ⟨rfl, hd, (u.at_ k v hk).1.keepE hd0 no e, (u.at_ k v hk).2, fun y hy => (u.at_ _ _ (g y hy).1).1.keepE hd0 no e, fun y hy hh => ?_⟩
  exact u.safe _ _ _ _ (g y hy).1 hk hh
theorem HouseAt.keepE {K : PySem.W.Frag} {w : World} {H H' : Hp} {p lp d : Addr} {J : List (List Nat)} {lo : Nat → List Nat} {ys : List KnY} (hd : H d = some (KnO w d ys)) (e : SameX d H H') (h : HouseAt K H p lp J lo) : HouseAt K H' p lp J lo := by
  obtain ⟨dx, ja, dk, h1, ⟨bs, h2, h3⟩, kvs, h4, h5⟩ := h.ex
  have ne : ∀ (p : Addr) (o : HO), H p = some o → o ≠ KnO w d ys → p ≠ d := fun p o q n z => by
    rw [z, hd] at q
    exact n (Option.some.inj q).symm
  refine ⟨dx, ja, dk, e _ _ (ne _ _ h1 fun z => nomatch z) h1, ⟨bs, e _ _ (ne _ _ h2 fun z => nomatch z) h2, Paired.mapP h3 fun _ _ q => e _ _ (ne _ _ q fun z => nomatch z) q⟩, kvs, e _ _ (ne _ _ h4 fun z => nomatch z) h4, fun l => (h5 l).imp id fun ⟨a, b, c, q⟩ => ⟨a, b, c, e _ _ (ne _ _ q fun z => nomatch z) q⟩⟩
theorem KeptAt.get {H H2 : Hp} {dk tp : Addr} {lo : Nat → List Nat} (h : KeptAt H dk lo) (e : Same H H2) (ht : H2 tp = some (.tup [])) (n : Nat) : ∃ (o : Option V) (a : Addr), DGet H2 dk (nV n) o ∧ o.getD (.ref tp) = .ref a ∧ H2 a = some (.tup ((lo n).map nV)) := by
  obtain ⟨kvs, h1, h2⟩ := h.ex
  rcases h2 n with ⟨a, b⟩ | ⟨a, b, c, q⟩
  · exact ⟨none, tp, .inl ⟨kvs, kn n, .inl (e _ _ h1), rfl, b.symm⟩, rfl, by rw [a]; exact ht⟩
  · exact ⟨some (.ref b), b, .inl ⟨kvs, kn n, .inl (e _ _ h1), rfl, c.symm⟩, rfl, e _ _ q⟩
/-- who is led into B by each of the first -/
def andN (J : List (List Nat)) (A B : List Nat) (i : Nat) : List Nat := (List.range J.length).filter fun u => (A.take i).all fun v => B.contains (jn J v u)
theorem and_zero (J : List (List Nat)) (A B : List Nat) : 2 ^ J.length - 1 = bt (andN J A B 0) := by
  unfold andN
  refine bt_filter_ext (Nat.sub_lt (Nat.two_pow_pos _) (by decide)) fun i hi => ?_
  rw [Nat.testBit_two_pow_sub_one, decide_eq_true hi]
  simp
theorem and_step {J : List (List Nat)} {A B : List Nat} {i v : Nat} (h : A[i]? = some v) : bt (andN J A B i) &&& bt (leadN J B v) = bt (andN J A B (i + 1)) := by
  refine Nat.eq_of_testBit_eq fun j => ?_
  unfold andN leadN
  rw [Nat.testBit_and, bt_bit _ (asc_filter (asc_range _)), bt_bit _ (asc_filter (asc_range _)), bt_bit _ (asc_filter (asc_range _)), ← Bool.decide_and, decide_eq_decide, List.mem_filter, List.mem_filter, List.mem_filter, List.take_add_one, h, List.all_append]
  simp
  constructor
  · rintro ⟨⟨a, b⟩, _, c⟩
    exact ⟨a, b, c⟩
  · rintro ⟨a, b, c⟩
    exact ⟨⟨a, b⟩, a, c⟩
theorem and_end {J : List (List Nat)} {lo : Nat → List Nat} (M : Mon J) (ltn : ∀ l, ∀ x ∈ lo l, x < J.length) (a b : Kd) : andN J (stN J lo a) (stN J lo b) (stN J lo a).length = stN J lo (.ar a b) := by
  unfold andN
  rw [List.take_length]
  show _ = (List.range J.length).filter fun u => (stN J lo a).all fun v => (stN J lo b).contains (jn J u v)
  refine List.filter_congr fun u hu => ?_
  rw [Bool.eq_iff_iff, List.all_eq_true, List.all_eq_true]
  have hu := List.mem_range.mp hu
  refine ⟨fun q v hv => ?_, fun q v hv => ?_⟩
  · rw [M.comm u v hu (stN_lt ltn a v hv)]
    exact q v hv
  · rw [M.comm v u (stN_lt ltn a v hv) hu]
    exact q v hv
theorem band_nat (a b : Nat) : Builtin.bitAnd (a : Int) (b : Int) = ((a &&& b : Nat) : Int) := by
  unfold Builtin.bitAnd
  rw [decide_eq_true (Int.natCast_nonneg a), decide_eq_true (Int.natCast_nonneg b)]
  rfl
theorem int_two (n : Nat) : ((2 : Int) ^ n - 1) = ((2 ^ n - 1 : Nat) : Int) := by
  have := Nat.two_pow_pos n
  rw [Int.natCast_sub this]
  simp
theorem KnGood.snoc {U : Kd → V → Prop} {J : List (List Nat)} {lo : Nat → List Nat} {ys : List KnY} {k : Kd} {v : V} (g : KnGood U J lo ys) (h : U k v) : KnGood U J lo (ys ++ [(k, v, nV (bt (stN J lo k)))]) := fun e he => by
  rcases List.mem_append.mp he with q | q
  · exact g e q
  · rw [List.mem_singleton.mp q]
    exact ⟨h, rfl⟩
def sp_has_of (K : PySem.W.Frag) (w : World) : Sp := fun vs H Q _ => ∃ (hp lp d : Addr) (J : List (List Nat)) (lo : Nat → List Nat) (k : Kd) (v : V) (ys : List KnY) (U : Kd → V → Prop), vs = [.ref hp, v, .ref d] ∧ HouseAt K H hp lp J lo ∧ Mon J ∧ J.length ≤ 200 ∧
  (∀ l, Asc (lo l)) ∧ (∀ l, ∀ x ∈ lo l, x < J.length) ∧ H d = some (KnO w d ys) ∧ HasU w H U ∧ U k v ∧ KnGood U J lo ys ∧ ys.length ≤ 10000 ∧ k.size ≤ 100 ∧
  ∀ (H' : Hp) (zs : List KnY), SameX d H H' → H' d = some (KnO w d zs) → KnGood U J lo zs → zs.length ≤ ys.length + 6 * k.size → Q (nV (bt (stN J lo k))) H'
theorem sc_has_of : FnScope ["house", "kind", "known", "waiting", "here", "found", "looks", "stand", "part"] ["house", "kind", "known"] (defScope s_has_of) := ⟨rfl, rfl, rfl, by decide +kernel, rfl, by decide +kernel, by decide +kernel⟩
theorem ok_has_of (T : Txt K mg) : Pr P w K mg base 3 "has_of" ["house", "kind", "known"] (sp_has_of K w) := by
  have G_bits_of : Pr P w K mg base 1 "bits_of" _ _ := ok_bits_of T
  have G_stands_of : Pr P w K mg base 1 "stands_of" _ _ := ok_stands_of T
  have G_looks_of : Pr P w K mg base 2 "looks_of" _ _ := ok_looks_of T
  refine T.d_has_of.pr sc_has_of (fun vs H Q E h => ?_) (fun _ _ _ _ _ _ us hl => match us, hl with | [_, _, _], _ => rfl) (fun f cdv A outer s H vs Q E hr h => ?_)
  · obtain ⟨hp, lp, d, J, lo, k, v, ys, U, rfl, _⟩ := h
    rfl
  · obtain ⟨hp, lp, d, J, lo, k, v, ys, U, rfl, hH, M, hn, asc, ltn, hd, hU, hk, gys, yl, ksz, q⟩ := h
    have hu := hu_of hr
    have hu64 := roomU hr
    refine ⟨_, (pss_cons (ps_s 3 sc_has_of.nd (pe_lst (pa_cons (pv 1) pa_nil)))
    (pss_cons (ps_while PassesOwn.never (pt_cmpR op_gt (pe_callB call_len rfl T.b_len (by decide +kernel) (pa_cons (pv 3) pa_nil)) pe_int (nomark _))
      (pss_cons (ps_s 4 sc_has_of.nd (pe_ix ix_list (pv 3) (pe_un un_neg pe_int) (fun _ _ => rfl)))
      (pss_one (ps_if (pt_cmp (pc_kin hu64 (pv 4) (pv 2)))
        (pss_one (ps_expr (pe_bm0 PySem.F.plainAttrs_list PySem.F.slot_list_pop PySem.F.type_list_pop mt_pop (pv 3))))
        (pss_one (ps_if (pt_not (pt_val (pe_callB call_isi rfl T.b_isinstance (by decide +kernel) (pa_cons (pv 4) (pa_cons (pe_bltn (v := .ty "tuple") (by rfl) T.b_tuple (by decide +kernel) rfl) pa_nil)))))
          (pss_one (ps_kput hu64 (pv 2) (pv 4) (pe_callP G_bits_of hr (by decide) (pa_cons (pe_dget2 hu (pe_fld (pv 0) rfl) (pv 4) (pe_tup pa_nil) ⟨by rfl, by rfl, by rfl, by rfl⟩) pa_nil)) rfl))
          (pss_one (ps_if (PW.pt (pw_or (pt_cmp (pc_knotin hu64 (pe_ix ix_tup (pv 4) pe_int (fun _ _ => rfl)) (pv 2))) (pw_or1 (pt_cmp (pc_knotin hu64 (pe_ix ix_tup (pv 4) pe_int (fun _ _ => rfl)) (pv 2))))))
            (pss_one (ps_expr (pe_bm PySem.F.plainAttrs_list PySem.F.slot_list_extend PySem.F.type_list_extend mt_extend (pv 3) (pa_cons (pe_lc (own := [("part", 8)]) (g := gName 8) rfl sc_has_of.nd (pi_tup (pv 4)) (blkOk_by (N := ["house", "kind", "known", "waiting", "here", "found", "looks", "stand", "part"]) (sc := defScope s_has_of) (by decide +kernel)) (fun _ _ _ _ _ => (pg_n 8 sc_has_of.nd)) (fun _ _ _ _ _ => (pts_one (pt_cmp (pc_knotinW rfl hu64 (pv 8) (pv 2))))) (fun _ _ _ _ _ => (pv 8))) pa_nil))))
            (pss_cons (ps_s 5 sc_has_of.nd (pe_op op_sub (pe_op op_oneShl pe_int (pe_callB call_len rfl T.b_len (by decide +kernel) (pa_cons (pe_fld (pv 0) rfl) pa_nil))) pe_int))
            (pss_cons (ps_s 6 sc_has_of.nd (pe_callP G_looks_of hr (by decide) (pa_cons (pe_fld (pv 0) rfl) (pa_cons (pe_callP G_stands_of hr (by decide) (pa_cons (pe_kget hu64 (pv 2) (pe_ix ix_tup (pv 4) pe_int (fun _ _ => rfl)) (fun _ _ => rfl)) pa_nil)) pa_nil))))
            (pss_cons (ps_for PassesOwn.never rfl (pi_tup (pe_callP G_stands_of hr (by decide) (pa_cons (pe_kget hu64 (pv 2) (pe_ix ix_tup (pv 4) pe_int (fun _ _ => rfl)) (fun _ _ => rfl)) pa_nil))) (pg_n 7 sc_has_of.nd)
              (pss_one (ps_s 5 sc_has_of.nd (pe_op op_and (pv 5) (pe_ix ix_list (pv 6) (pv 7) (fun _ _ => rfl))))))
            (pss_one (ps_kput hu64 (pv 2) (pv 4) (pv 5) rfl)))))))))))))
    (pss_one (ps_ret (pe_kget hu64 (pv 2) (pv 1) (fun _ _ => rfl)))))), ?_⟩
    simp only [st_c, st_n, st_0]
    have no : ∀ xs, KnO w d ys ≠ .tup xs := fun xs z => nomatch z
    refine ⟨_, rfl, Nat.le_of_ble_eq_true rfl, fun l l0 => ?_⟩
    have ld : l ≠ d := (ne_of_none hd l0).symm
    obtain ⟨m0, hm0, r0⟩ := runs_start k (ksOf ys)
    refine ⟨fun m σ H' => ∃ (S : List (Kd × V)) (zs : List KnY) (v4 v5 v6 v7 v8 : Option V), σ = [some (.ref hp), some v, some (.ref d), some (.ref l), v4, v5, v6, v7, v8] ∧ Runs ((kdsOf S).reverse) (ksOf zs) m ∧ SameX d H H' ∧ H' l = some (.lst (vlsOf S)) ∧ H' d = some (KnO w d zs) ∧
      (∀ t ∈ S, U t.1 t.2) ∧ KnGood U J lo zs ∧ zs.length + m ≤ ys.length + m0 ∧ (k ∈ ksOf zs ∨ k ∈ kdsOf S), ⟨m0, [(k, v)], ys, _, _, _, _, _, rfl, r0, Same.x (same_upd l0), upd_same, by rw [upd_ne ld.symm]; exact hd, fun t ht => by rw [List.mem_singleton.mp ht]; exact hk, gys, Nat.le_refl _, .inr (by simp [kdsOf])⟩, ?_⟩
    rintro m σ H' ⟨S, zs, v4, v5, v6, v7, v8, rfl, run, sx, hl, hd', hS, gz, bnd, hin⟩
    have lenS := run.len
    rw [List.length_reverse, kdsOf, List.length_map] at lenS
    refine ⟨_, rfl, _, S.length, rfl, .inl ⟨_, SqL.of hl, (List.length_map ..).symm⟩, _, _, rfl, rfl, _, rfl, ?_⟩
    rcases List.eq_nil_or_concat S with rfl | ⟨S, t, rfl⟩
    · have hkz : k ∈ ksOf zs := hin.resolve_right (by simp [kdsOf])
      obtain ⟨e, he, ek, eg⟩ := knGet_some hkz
      refine iteF ⟨_, rfl, _, rfl, d, zs, k, _, hU.ask hd sx hd' gz hk, eg, ?_⟩
      rw [(gz e he).2, ek]
      exact q H' zs sx hd' gz (by omega)
    rw [List.concat_eq_append] at *
    obtain ⟨tk, tv⟩ := t
    rw [decide_eq_true (show (0 : Int) < ((S ++ [(tk, tv)]).length : Int) by simp)]
    have ht : U tk tv := hS (tk, tv) (by simp)
    have hS0 : ∀ t ∈ S, U t.1 t.2 := fun t h => hS t (List.mem_append_left _ h)
    have erev : (kdsOf (S ++ [(tk, tv)])).reverse = tk :: (kdsOf S).reverse := by simp [kdsOf]
    rw [erev] at run
    refine iteT ⟨fun σ' H2 => ∃ m', m' < m ∧ ∃ (S : List (Kd × V)) (zs : List KnY) (v4 v5 v6 v7 v8 : Option V), σ' = [some (.ref hp), some v, some (.ref d), some (.ref l), v4, v5, v6, v7, v8] ∧ Runs ((kdsOf S).reverse) (ksOf zs) m' ∧ SameX d H H2 ∧ H2 l = some (.lst (vlsOf S)) ∧ H2 d = some (KnO w d zs) ∧
      (∀ t ∈ S, U t.1 t.2) ∧ KnGood U J lo zs ∧ zs.length + m' ≤ ys.length + m0 ∧ (k ∈ ksOf zs ∨ k ∈ kdsOf S), fun σ' H2 h => h, ?_⟩
    refine ⟨_, rfl, 1, rfl, l, _, -1, tv, rfl, rfl, SqL.of hl, vls_neg S _, ?_⟩
    have ask0 := hU.ask hd sx hd' gz ht
    refine ⟨_, rfl, _, rfl, d, zs, tk, ask0, _, rfl, ?_⟩
    rw [knGet_mem]
    by_cases hkn : tk ∈ ksOf zs
    · rw [decide_eq_true hkn]
      refine iteT ⟨_, rfl, .inl ⟨rfl, _, SqL.of hl⟩, l, _, tv, rfl, rfl, hl, vls_last S _, ?_⟩
      rw [vls_drop]
      obtain ⟨m', em, run'⟩ : ∃ m', m = m' + 1 ∧ Runs ((kdsOf S).reverse) (ksOf zs) m' := by
        cases run with
        | pop h t => exact ⟨_, rfl, t⟩
        | letter h t => exact absurd hkn h
        | push h g t => exact absurd hkn h
        | done h a b t => exact absurd hkn h
      refine ⟨m', by omega, S, zs, _, _, _, _, _, rfl, run', fun b o nb e => ?_, upd_same, ?_, hS0, gz, by omega, ?_⟩
      · rw [upd_ne (ne_of_none e l0)]
        exact sx b o nb e
      · rw [upd_ne ld.symm]
        exact hd'
      · rcases hin with e | e
        · exact .inl e
        · rcases (show k ∈ kdsOf S ∨ k = tk by simpa [kdsOf] using e) with e | e
          · exact .inr e
          · exact .inl (e ▸ hkn)
    rw [decide_eq_false hkn]
    refine iteF ?_
    have l0' := l0
    cases tk with
    | lt n =>
      cases (show tv = nV n from (hU.at_ _ _ ht).1)
      refine ⟨_, rfl, _, _, _, _, false, rfl, .ty _, .base (.int _), kit_ty (by decide +kernel), false, rfl, iteT ?_⟩
      obtain ⟨m', em, run'⟩ : ∃ m', m = m' + 1 ∧ Runs (.lt n :: (kdsOf S).reverse) (ksOf zs ++ [.lt n]) m' := by
        cases run with
        | pop h t => exact absurd h hkn
        | letter h t => exact ⟨_, rfl, t⟩
      obtain ⟨dx, ja, dk, h1, h2, h3⟩ := (hH.keepE hd sx).ex
      refine ⟨_, rfl, hp, _, dx, _, _, rfl, h1, T.o_House.cl, T.n_House_kept_letters, rfl, dk, rfl, (let ⟨kvs, q, _⟩ := h3.ex; .inl ⟨kvs, .inl q⟩), _, rfl, Nat.zero_le _, fun tp htp => ?_⟩
      have t2 : Same H' (upd H' tp (.tup [])) := same_upd htp
      obtain ⟨o, ad, g1, g2, g3⟩ := h3.get t2 upd_same n
      refine ⟨o, g1, ad, lo n, ?_, .inr (SqT.of g3), fun x hx => Nat.le_trans (Nat.le_of_lt (ltn n x hx)) (Nat.le_trans hn (by decide)), Nat.le_trans (asc_len (ltn n) (asc n)) (Nat.le_trans hn (by decide)), fun H3 s3 => ?_⟩
      · rw [g2]
        rfl
      have s23 := t2.trans s3
      have sx3 : SameX d H H3 := fun b o nb e => s23 _ _ (sx b o nb e)
      have hd3 := s23 _ _ hd'
      have hl3 := s23 _ _ hl
      refine ⟨_, rfl, _, rfl, d, zs, .lt n, hU.ask hd sx3 hd3 gz ht, knGet_none hkn, Nat.lt_of_le_of_lt (show zs.length ≤ 20000 by omega) (by decide), ?_⟩
      refine ⟨m', by omega, S ++ [(.lt n, nV n)], zs ++ [(.lt n, nV n, nV (bt (lo n)))], _, _, _, _, _, rfl, by rw [erev, ksOf_snoc]; exact run', fun b o nb e => ?_, ?_, upd_same, hS, gz.snoc ht, by rw [List.length_append, List.length_singleton]; omega, ?_⟩
      · rw [upd_ne nb]
        exact sx3 b o nb e
      · rw [upd_ne ld]
        exact hl3
      · rw [ksOf_snoc]
        rcases hin with e | e
        · exact .inl (List.mem_append_left _ e)
        · exact .inr e
    | ar a b =>
      obtain ⟨p, x1, x2, rfl, hpt, ha, hb⟩ := (hU.at_ _ _ ht).1
      have hpt' := sx p _ (fun z => by rw [z, hd] at hpt; cases hpt) hpt
      obtain ⟨ua, ub⟩ := hU.part a b p x1 x2 ht hpt
      refine ⟨_, rfl, _, _, _, _, true, rfl, .ty _, .base (.tup hpt'), kit_ty (by decide +kernel), true, rfl, iteF ?_⟩
      refine ⟨_, rfl, _, _, _, _, rfl, rfl, SqT.of hpt', rfl, _, rfl, d, zs, a, hU.ask hd sx hd' gz ua, _, rfl, ?_⟩
      rw [knGet_mem]
      by_cases ka : a ∈ ksOf zs
      · rw [decide_eq_true ka]
        refine iteF ?_
        refine ⟨_, rfl, _, _, _, _, rfl, rfl, SqT.of hpt', rfl, _, rfl, d, zs, b, hU.ask hd sx hd' gz ub, _, rfl, ?_⟩
        rw [knGet_mem]
        by_cases kb : b ∈ ksOf zs
        · rw [decide_eq_true kb]
          refine iteF ?_
          obtain ⟨m', em, run'⟩ : ∃ m', m = m' + 1 ∧ Runs (.ar a b :: (kdsOf S).reverse) (ksOf zs ++ [.ar a b]) m' := by
            cases run with
            | pop h t => exact absurd h hkn
            | push h g t => exact absurd ⟨ka, kb⟩ g
            | done h _ _ t => exact ⟨_, rfl, t⟩
          obtain ⟨dx, ja, dk, h1, h2, h3⟩ := (hH.keepE hd sx).ex
          obtain ⟨bs, hbs, hrows⟩ := id h2
          have hbl : bs.length = J.length := pairedLen hrows
          refine ⟨_, rfl, hp, _, dx, _, _, rfl, h1, T.o_House.cl, T.n_House_joining, rfl, _, J.length, rfl, .inr ⟨_, SqT.of hbs, by rw [List.length_map, hbl]⟩, J.length, rfl, rfl, by omega, _, _, rfl, rfl, ?_⟩
          obtain ⟨eb, hebz, ekb, egb⟩ := knGet_some kb
          obtain ⟨ea, heaz, eka, ega⟩ := knGet_some ka
          have vb := (gz eb hebz).2
          have va := (gz ea heaz).2
          rw [ekb] at vb
          rw [eka] at va
          have l1000 : ∀ k, ∀ x ∈ stN J lo k, x < 1000 := fun k x hx => Nat.lt_of_lt_of_le (stN_lt ltn k x hx) (Nat.le_trans hn (by decide))
          refine ⟨_, rfl, hp, _, dx, _, _, rfl, h1, T.o_House.cl, T.n_House_joining, rfl, _, rfl, _, rfl, _, _, _, _, rfl, rfl, SqT.of hpt', rfl, d, zs, b, _, hU.ask hd sx hd' gz ub, egb, stN J lo b, congrArg (fun z => [z]) vb, stN_asc asc b, l1000 b, fun H2 p2 s2 hp2 => ?_⟩
          refine ⟨ja, p2, J, stN J lo b, rfl, (h2.same s2).t, SqT.of hp2, Nat.le_trans hn (by decide), fun r hr => by rw [M.row r hr]; exact Nat.le_trans hn (by decide), Nat.le_trans (asc_len (stN_lt ltn b) (stN_asc asc b)) (Nat.le_trans hn (by decide)), fun H3 lk s3 hlk => ?_⟩
          have s13 := s2.trans s3
          have sx3 : SameX d H H3 := fun b o nb e => s13 _ _ (sx b o nb e)
          have hd3 := s13 _ _ hd'
          refine ⟨_, rfl, _, rfl, _, _, _, _, rfl, rfl, SqT.of (s13 _ _ hpt'), rfl, d, zs, a, _, hU.ask hd sx3 hd3 gz ua, ega, stN J lo a, congrArg (fun z => [z]) va, stN_asc asc a, l1000 a, fun H4 p4 s4 hp4 => ?_⟩
          refine ⟨p4, rfl, ⟨_, SqT.of hp4⟩, ?_⟩
          have s14 := s13.trans s4
          have hlk4 := s4.seq hlk
          refine for_it walk_tup (fun i σ H5 => ∃ v7, σ = [some (.ref hp), some v, some (.ref d), some (.ref l), some (.ref p), some (nV (bt (andN J (stN J lo a) (stN J lo b) i))), some (.ref lk), v7, v8] ∧ H5 = H4) ⟨v7, ?_, rfl⟩ (fun i σ H5 _ ⟨_, _, e⟩ => by rw [e]; exact SqT.of hp4) ?_ ?_
          · show [_, _, _, _, _, some (V.int (2 ^ J.length - 1)), _, _, _] = _
            rw [int_two, and_zero J (stN J lo a) (stN J lo b)]
          · rintro i x σ _ H5 hi ⟨v7, rfl, rfl⟩ ⟨rfl, hx⟩
            obtain ⟨u, hu5, rfl⟩ := nV_at hx
            have ul := stN_lt ltn a u (List.mem_of_getElem? hu5)
            refine ⟨_, rfl, _, rfl, _, rfl, lk, _, _, _, rfl, rfl, hlk4, at_nV (looks_at M ul), _, _, rfl, rfl, ?_⟩
            refine ⟨some (nV u), ?_, rfl⟩
            show [_, _, _, _, _, some (V.int (Builtin.bitAnd (bt (andN J (stN J lo a) (stN J lo b) i) : Nat) (bt (leadN J (stN J lo b) u) : Nat))), _, _, _] = _
            rw [band_nat, and_step hu5]
          · rintro σ H5 ⟨v7, rfl, rfl⟩
            rw [show ((stN J lo a).map nV).length = (stN J lo a).length from List.length_map .., and_end M ltn]
            have sx4 : SameX d H H5 := fun b o nb e => s14 _ _ (sx b o nb e)
            have hd4 := s14 _ _ hd'
            refine ⟨_, rfl, _, rfl, _, rfl, d, zs, .ar a b, hU.ask hd sx4 hd4 gz ht, knGet_none hkn, Nat.lt_of_le_of_lt (show zs.length ≤ 20000 by omega) (by decide), ?_⟩
            refine ⟨m', by omega, S ++ [(.ar a b, .ref p)], zs ++ [(.ar a b, .ref p, nV (bt (stN J lo (.ar a b))))], _, _, _, _, _, rfl, by rw [erev, ksOf_snoc]; exact run', fun b o nb e => ?_, ?_, upd_same, hS, gz.snoc ht, by rw [List.length_append, List.length_singleton]; omega, ?_⟩
            · rw [upd_ne nb]
              exact sx4 b o nb e
            · rw [upd_ne ld]
              exact s14 _ _ hl
            · rw [ksOf_snoc]
              rcases hin with e | e
              · exact .inl (List.mem_append_left _ e)
              · exact .inr e
        · rw [decide_eq_false kb]
          refine iteT ?_
          have hne : ¬ (a ∈ ksOf zs ∧ b ∈ ksOf zs) := fun ⟨z1, z2⟩ => by first | exact ka z1 | exact kb z2
          obtain ⟨m', em, run'⟩ : ∃ m', m = m' + 1 ∧ Runs ((if b ∈ ksOf zs then [] else [b]) ++ ((if a ∈ ksOf zs then [] else [a]) ++ .ar a b :: (kdsOf S).reverse)) (ksOf zs) m' := by
            cases run with
            | pop h t => exact absurd h hkn
            | push h g t => exact ⟨_, rfl, t⟩
            | done h z1 z2 t => exact absurd ⟨z1, z2⟩ hne
          refine ⟨_, rfl, .inl ⟨rfl, _, SqL.of hl⟩, _, rfl, p, rfl, ⟨_, SqT.of hpt'⟩, fun D hD => ?_⟩
          refine lc_it walk_tup (LcP H' D (fun i acc _ => acc = vlsOf ((if 0 < i then (if a ∈ ksOf zs then [] else [(a, x1)]) else []) ++ (if 1 < i then (if b ∈ ksOf zs then [] else [(b, x2)]) else [])))) (LcP.zero hD rfl) (fun i H1 _ ⟨_, s1, _⟩ => SqT.of (s1 _ _ hpt')) ?_ fun H2 h2 => ?_
          · rintro i x _ H1 hi ⟨acc, s1, hda, hle, e⟩ ⟨rfl, hx⟩
            have sx1 : SameX d H H1 := fun b o nb e => s1 _ _ (sx b o nb e)
            have hd1 := s1 _ _ hd'
            refine ⟨rfl, ?_⟩
            rcases (show i = 0 ∨ i = 1 by have : i < 2 := hi; omega) with rfl | rfl
            · cases (show x1 = x from Option.some.inj hx)
              refine ⟨_, rfl, _, rfl, d, zs, a, hU.ask hd sx1 hd1 gz ua, _, rfl, ?_⟩
              rw [knGet_mem]
              by_cases q : a ∈ ksOf zs
              · rw [decide_eq_true q]
                refine iteF (LcP.skip s1 hda hle (Same.refl _) ?_)
                rw [e, if_pos q]
                rfl
              · rw [decide_eq_false q]
                refine iteT ⟨_, rfl, LcP.put hD s1 hda hle (by decide) (Same.refl _) ?_⟩
                rw [e, if_neg q]
                rfl
            · cases (show x2 = x from Option.some.inj hx)
              refine ⟨_, rfl, _, rfl, d, zs, b, hU.ask hd sx1 hd1 gz ub, _, rfl, ?_⟩
              rw [knGet_mem]
              by_cases q : b ∈ ksOf zs
              · rw [decide_eq_true q]
                refine iteF (LcP.skip s1 hda hle (Same.refl _) ?_)
                rw [e, if_pos q]
                rfl
              · rw [decide_eq_false q]
                refine iteT ⟨_, rfl, LcP.put hD s1 hda hle (by decide) (Same.refl _) ?_⟩
                rw [e, if_neg q]
                by_cases q2 : a ∈ ksOf zs
                · rw [if_pos q2]
                  rfl
                · rw [if_neg q2]
                  rfl
          obtain ⟨acc, s2, hd2, _, e⟩ := h2
          have e : acc = vlsOf ((if a ∈ ksOf zs then [] else [(a, x1)]) ++ (if b ∈ ksOf zs then [] else [(b, x2)])) := e
          generalize hprt : (if a ∈ ksOf zs then [] else [(a, x1)]) ++ (if b ∈ ksOf zs then [] else [(b, x2)]) = prt at e
          have hU2 : ∀ t ∈ prt, U t.1 t.2 := fun t h => by
            have h2 : t = (a, x1) ∨ t = (b, x2) := by
              rw [← hprt] at h
              by_cases qa : a ∈ ksOf zs <;> by_cases qb : b ∈ ksOf zs <;> simp [qa, qb] at h
              · exact .inr h
              · exact .inl h
              · exact h
            rcases h2 with h | h
            · rw [h]; exact ua
            · rw [h]; exact ub
          have rv2 : (kdsOf (S ++ [(Kd.ar a b, V.ref p)] ++ prt)).reverse = (if b ∈ ksOf zs then [] else [b]) ++ ((if a ∈ ksOf zs then [] else [a]) ++ .ar a b :: (kdsOf S).reverse) := by
            rw [← hprt]
            unfold kdsOf
            by_cases qa : a ∈ ksOf zs <;> by_cases qb : b ∈ ksOf zs <;> simp [qa, qb]
          have pl : prt.length ≤ 2 := by
            rw [← hprt]
            by_cases qa : a ∈ ksOf zs <;> by_cases qb : b ∈ ksOf zs <;> simp [qa, qb]
          rw [e] at hd2
          refine ⟨l, D, _, _, rfl, rfl, s2 _ _ hl, hd2, ?_, ?_⟩
          · unfold vlsOf
            rw [List.length_map, List.length_map]
            exact Nat.le_trans (Nat.add_le_add (show _ ≤ 20000 by omega) pl) (by decide)
          refine ⟨m', by omega, S ++ [(.ar a b, .ref p)] ++ prt, zs, _, _, _, _, _, rfl, by rw [rv2]; exact run', fun b o nb e => ?_, ?_, ?_, fun t h => ?_, gz, by omega, ?_⟩
          · rw [upd_ne (ne_of_none e l0)]
            exact s2 _ _ (sx b o nb e)
          · rw [upd_same]
            unfold vlsOf
            rw [List.map_append (l₂ := prt)]
          · rw [upd_ne ld.symm]
            exact s2 _ _ hd'
          · rcases List.mem_append.mp h with q | q
            · exact hS t q
            · exact hU2 t q
          · rcases hin with e | e
            · exact .inl e
            · refine .inr ?_
              unfold kdsOf at e ⊢
              rw [List.map_append]
              exact List.mem_append_left _ e
      · rw [decide_eq_false ka]
        refine iteT ?_
        have hne : ¬ (a ∈ ksOf zs ∧ b ∈ ksOf zs) := fun ⟨z1, z2⟩ => by first | exact ka z1 | exact kb z2
        obtain ⟨m', em, run'⟩ : ∃ m', m = m' + 1 ∧ Runs ((if b ∈ ksOf zs then [] else [b]) ++ ((if a ∈ ksOf zs then [] else [a]) ++ .ar a b :: (kdsOf S).reverse)) (ksOf zs) m' := by
          cases run with
          | pop h t => exact absurd h hkn
          | push h g t => exact ⟨_, rfl, t⟩
          | done h z1 z2 t => exact absurd ⟨z1, z2⟩ hne
        refine ⟨_, rfl, .inl ⟨rfl, _, SqL.of hl⟩, _, rfl, p, rfl, ⟨_, SqT.of hpt'⟩, fun D hD => ?_⟩
        refine lc_it walk_tup (LcP H' D (fun i acc _ => acc = vlsOf ((if 0 < i then (if a ∈ ksOf zs then [] else [(a, x1)]) else []) ++ (if 1 < i then (if b ∈ ksOf zs then [] else [(b, x2)]) else [])))) (LcP.zero hD rfl) (fun i H1 _ ⟨_, s1, _⟩ => SqT.of (s1 _ _ hpt')) ?_ fun H2 h2 => ?_
        · rintro i x _ H1 hi ⟨acc, s1, hda, hle, e⟩ ⟨rfl, hx⟩
          have sx1 : SameX d H H1 := fun b o nb e => s1 _ _ (sx b o nb e)
          have hd1 := s1 _ _ hd'
          refine ⟨rfl, ?_⟩
          rcases (show i = 0 ∨ i = 1 by have : i < 2 := hi; omega) with rfl | rfl
          · cases (show x1 = x from Option.some.inj hx)
            refine ⟨_, rfl, _, rfl, d, zs, a, hU.ask hd sx1 hd1 gz ua, _, rfl, ?_⟩
            rw [knGet_mem]
            by_cases q : a ∈ ksOf zs
            · rw [decide_eq_true q]
              refine iteF (LcP.skip s1 hda hle (Same.refl _) ?_)
              rw [e, if_pos q]
              rfl
            · rw [decide_eq_false q]
              refine iteT ⟨_, rfl, LcP.put hD s1 hda hle (by decide) (Same.refl _) ?_⟩
              rw [e, if_neg q]
              rfl
          · cases (show x2 = x from Option.some.inj hx)
            refine ⟨_, rfl, _, rfl, d, zs, b, hU.ask hd sx1 hd1 gz ub, _, rfl, ?_⟩
            rw [knGet_mem]
            by_cases q : b ∈ ksOf zs
            · rw [decide_eq_true q]
              refine iteF (LcP.skip s1 hda hle (Same.refl _) ?_)
              rw [e, if_pos q]
              rfl
            · rw [decide_eq_false q]
              refine iteT ⟨_, rfl, LcP.put hD s1 hda hle (by decide) (Same.refl _) ?_⟩
              rw [e, if_neg q]
              by_cases q2 : a ∈ ksOf zs
              · rw [if_pos q2]
                rfl
              · rw [if_neg q2]
                rfl
        obtain ⟨acc, s2, hd2, _, e⟩ := h2
        have e : acc = vlsOf ((if a ∈ ksOf zs then [] else [(a, x1)]) ++ (if b ∈ ksOf zs then [] else [(b, x2)])) := e
        generalize hprt : (if a ∈ ksOf zs then [] else [(a, x1)]) ++ (if b ∈ ksOf zs then [] else [(b, x2)]) = prt at e
        have hU2 : ∀ t ∈ prt, U t.1 t.2 := fun t h => by
          have h2 : t = (a, x1) ∨ t = (b, x2) := by
            rw [← hprt] at h
            by_cases qa : a ∈ ksOf zs <;> by_cases qb : b ∈ ksOf zs <;> simp [qa, qb] at h
            · exact .inr h
            · exact .inl h
            · exact h
          rcases h2 with h | h
          · rw [h]; exact ua
          · rw [h]; exact ub
        have rv2 : (kdsOf (S ++ [(Kd.ar a b, V.ref p)] ++ prt)).reverse = (if b ∈ ksOf zs then [] else [b]) ++ ((if a ∈ ksOf zs then [] else [a]) ++ .ar a b :: (kdsOf S).reverse) := by
          rw [← hprt]
          unfold kdsOf
          by_cases qa : a ∈ ksOf zs <;> by_cases qb : b ∈ ksOf zs <;> simp [qa, qb]
        have pl : prt.length ≤ 2 := by
          rw [← hprt]
          by_cases qa : a ∈ ksOf zs <;> by_cases qb : b ∈ ksOf zs <;> simp [qa, qb]
        rw [e] at hd2
        refine ⟨l, D, _, _, rfl, rfl, s2 _ _ hl, hd2, ?_, ?_⟩
        · unfold vlsOf
          rw [List.length_map, List.length_map]
          exact Nat.le_trans (Nat.add_le_add (show _ ≤ 20000 by omega) pl) (by decide)
        refine ⟨m', by omega, S ++ [(.ar a b, .ref p)] ++ prt, zs, _, _, _, _, _, rfl, by rw [rv2]; exact run', fun b o nb e => ?_, ?_, ?_, fun t h => ?_, gz, by omega, ?_⟩
        · rw [upd_ne (ne_of_none e l0)]
          exact s2 _ _ (sx b o nb e)
        · rw [upd_same]
          unfold vlsOf
          rw [List.map_append (l₂ := prt)]
        · rw [upd_ne ld.symm]
          exact s2 _ _ hd'
        · rcases List.mem_append.mp h with q | q
          · exact hS t q
          · exact hU2 t q
        · rcases hin with e | e
          · exact .inl e
          · refine .inr ?_
            unfold kdsOf at e ⊢
            rw [List.map_append]
            exact List.mem_append_left _ e
end
end UC
set_option Elab.async false
set_option linter.all false
set_option maxRecDepth 100000
set_option maxHeartbeats 8000000
/-! stands_with, is_against. -/
namespace UC
open PySem PySem.Spec PyProof.Rows L2
/-- the proper parts of a kind -/
def Kd.parts : Kd → List Kd
  | .lt _ => []
  | .ar a b => a :: b :: (a.parts ++ b.parts)
theorem Kd.parts_size : ∀ (k : Kd), ∀ p ∈ k.parts, p.size < k.size
  | .lt _, p, h => by cases h
  | .ar a b, p, h => by
    have sa := Kd.size_pos a
    have sb := Kd.size_pos b
    show p.size < a.size + b.size
    rcases List.mem_cons.mp h with e | h
    · rw [e]; omega
    rcases List.mem_cons.mp h with e | h
    · rw [e]; omega
    rcases List.mem_append.mp h with h | h
    · have := Kd.parts_size a p h
      omega
    · have := Kd.parts_size b p h
      omega
theorem Kd.parts_depth : ∀ (k : Kd), ∀ p ∈ k.parts, p.depth < k.depth
  | .lt _, p, h => by cases h
  | .ar a b, p, h => by
    show p.depth < max a.depth b.depth + 1
    rcases List.mem_cons.mp h with e | h
    · rw [e]; omega
    rcases List.mem_cons.mp h with e | h
    · rw [e]; omega
    rcases List.mem_append.mp h with h | h
    · have := Kd.parts_depth a p h
      omega
    · have := Kd.parts_depth b p h
      omega
/-- no part's hash is the hash of the whole -/
def Kd.calm (w : World) (k : Kd) : Prop := k.depth ≤ 8 ∨ (k.depth ≤ 9 ∧ ∀ p ∈ k.parts, p.key.hash w ≠ k.key.hash w)
/-- a part with its value -/
inductive SubAt (H : Hp) (k : Kd) (v : V) : Kd → V → Prop where
  | all : SubAt H k v k v
  | fst {a b : Kd} {p : Addr} {x y : V} (t : SubAt H k v (.ar a b) (.ref p)) (h : H p = some (.tup [x, y])) : SubAt H k v a x
  | snd {a b : Kd} {p : Addr} {x y : V} (t : SubAt H k v (.ar a b) (.ref p)) (h : H p = some (.tup [x, y])) : SubAt H k v b y
theorem Kd.parts_trans : ∀ {k p q : Kd}, p ∈ k.parts → q ∈ p.parts → q ∈ k.parts
  | .lt _, p, q, h, _ => by cases h
  | .ar a b, p, q, h, g => by
    show q ∈ a :: b :: (a.parts ++ b.parts)
    rcases List.mem_cons.mp h with e | h
    · exact List.mem_cons_of_mem _ (List.mem_cons_of_mem _ (List.mem_append_left _ (e ▸ g)))
    rcases List.mem_cons.mp h with e | h
    · exact List.mem_cons_of_mem _ (List.mem_cons_of_mem _ (List.mem_append_right _ (e ▸ g)))
    rcases List.mem_append.mp h with h | h
    · exact List.mem_cons_of_mem _ (List.mem_cons_of_mem _ (List.mem_append_left _ (Kd.parts_trans h g)))
    · exact List.mem_cons_of_mem _ (List.mem_cons_of_mem _ (List.mem_append_right _ (Kd.parts_trans h g)))
theorem SubAt.is {H : Hp} {k k' : Kd} {v v' : V} (hk : KdAt H k v) (s : SubAt H k v k' v') : KdAt H k' v' ∧ ((k' = k ∧ v' = v) ∨ k' ∈ k.parts) := by
  induction s with
  | all => exact ⟨hk, .inl ⟨rfl, rfl⟩⟩
  | @fst a b p x y _ h ih =>
    obtain ⟨⟨p', x', y', e1, e2, e3, e4⟩, q⟩ := ih
    cases e1
    rw [h] at e2
    cases e2
    refine ⟨e3, .inr ?_⟩
    rcases q with ⟨e, _⟩ | q
    · rw [← e]; exact List.mem_cons_self
    · exact Kd.parts_trans q List.mem_cons_self
  | @snd a b p x y _ h ih =>
    obtain ⟨⟨p', x', y', e1, e2, e3, e4⟩, q⟩ := ih
    cases e1
    rw [h] at e2
    cases e2
    refine ⟨e4, .inr ?_⟩
    rcases q with ⟨e, _⟩ | q
    · rw [← e]; exact List.mem_cons_of_mem _ List.mem_cons_self
    · exact Kd.parts_trans q (List.mem_cons_of_mem _ List.mem_cons_self)
theorem KdAt.refOf {H : Hp} {k : Kd} {v : V} (h : KdAt H k v) (d : 0 < k.depth) : ∃ a, v = .ref a := by
  cases k with
  | lt n => exact absurd d (Nat.lt_irrefl _)
  | ar a b => exact ⟨h.choose, let ⟨_, _, e, _⟩ := h.choose_spec; e⟩
theorem hasU_one {w : World} {H : Hp} {k : Kd} {v : V} (hk : KdAt H k v) (c : k.calm w) : HasU w H (SubAt H k v) := by
  have dk : k.depth ≤ 9 := c.elim (fun h => by omega) fun h => h.1
  refine ⟨fun k' v' s => ?_, fun a b p x y s h => ⟨.fst s h, .snd s h⟩, fun k1 v1 k2 v2 s1 s2 e => ?_⟩
  · obtain ⟨h, q⟩ := SubAt.is hk s
    refine ⟨h, ?_⟩
    rcases q with ⟨e, _⟩ | q
    · rw [e]; omega
    · have := Kd.parts_depth k k' q
      omega
  · obtain ⟨h1, q1⟩ := SubAt.is hk s1
    obtain ⟨h2, q2⟩ := SubAt.is hk s2
    rcases c with c | ⟨_, c⟩
    · refine .inr ⟨?_, ?_⟩
      · rcases q1 with ⟨z, _⟩ | z
        · rw [z]; exact c
        · have := Kd.parts_depth k k1 z
          omega
      · rcases q2 with ⟨z, _⟩ | z
        · rw [z]; exact c
        · have := Kd.parts_depth k k2 z
          omega
    · rcases q1 with ⟨z1, y1⟩ | z1
      · rcases q2 with ⟨z2, y2⟩ | z2
        · by_cases d0 : 0 < k.depth
          · exact .inl ⟨z1.trans z2.symm, y1.trans y2.symm, h2.refOf (by rw [z2]; exact d0)⟩
          · exact .inr ⟨by rw [z1]; omega, by rw [z2]; omega⟩
        · rw [z1] at e
          exact absurd e.symm (c k2 z2)
      · rcases q2 with ⟨z2, y2⟩ | z2
        · rw [z2] at e
          exact absurd e (c k1 z1)
        · have a1 := Kd.parts_depth k k1 z1
          have a2 := Kd.parts_depth k k2 z2
          exact .inr ⟨by omega, by omega⟩
theorem HasU.keepE {w : World} {H H' : Hp} {U : Kd → V → Prop} {d : Addr} {ys : List KnY} (u : HasU w H U) (hd : H d = some (KnO w d ys)) (e : SameX d H H') : HasU w H' U := by
  have no : ∀ xs, KnO w d ys ≠ .tup xs := fun xs z => nomatch z
  refine ⟨fun k v h => ⟨(u.at_ k v h).1.keepE hd no e, (u.at_ k v h).2⟩, fun a b p x y h hp => ?_, u.safe⟩
  obtain ⟨p', x', y', e1, e2, e3, e4⟩ := (u.at_ _ _ h).1
  cases e1
  have := e _ _ (fun z => by rw [z, hd] at e2; exact no _ (Option.some.inj e2)) e2
  rw [this] at hp
  cases hp
  exact u.part a b _ _ _ h e2
theorem HasU.same {w : World} {H H' : Hp} {U : Kd → V → Prop} (u : HasU w H U) (e : Same H H') : HasU w H' U := by
  refine ⟨fun k v h => ⟨(u.at_ k v h).1.same e, (u.at_ k v h).2⟩, fun a b p x y h hp => ?_, u.safe⟩
  obtain ⟨p', x', y', e1, e2, e3, e4⟩ := (u.at_ _ _ h).1
  cases e1
  rw [e _ _ e2] at hp
  cases hp
  exact u.part a b _ _ _ h e2
/-- kinds that are none too deep -/
theorem hasU_many {w : World} {H : Hp} {L : Kd → V → Prop} (hL : ∀ k v, L k v → KdAt H k v ∧ k.depth ≤ 8) : HasU w H fun k' v' => ∃ k v, L k v ∧ SubAt H k v k' v' := by
  have dp : ∀ k' v', (∃ k v, L k v ∧ SubAt H k v k' v') → KdAt H k' v' ∧ k'.depth ≤ 8 := fun k' v' ⟨k, v, h, s⟩ => by
    obtain ⟨h1, q⟩ := SubAt.is (hL k v h).1 s
    refine ⟨h1, ?_⟩
    have := (hL k v h).2
    rcases q with ⟨e, _⟩ | q
    · rw [e]; exact this
    · have := Kd.parts_depth k k' q
      omega
  exact ⟨fun k v h => ⟨(dp k v h).1, Nat.le_trans (dp k v h).2 (by decide)⟩, fun a b p x y ⟨k, v, h, s⟩ hp => ⟨⟨k, v, h, .fst s hp⟩, ⟨k, v, h, .snd s hp⟩⟩, fun k1 v1 k2 v2 s1 s2 _ => .inr ⟨(dp _ _ s1).2, (dp _ _ s2).2⟩⟩
theorem KnGood.nil {U : Kd → V → Prop} {J : List (List Nat)} {lo : Nat → List Nat} : KnGood U J lo [] := fun e he => (List.not_mem_nil he).elim
/-- the house's own numbers -/
structure HsOk (J : List (List Nat)) (lo : Nat → List Nat) : Prop where
  M : Mon J
  n : J.length ≤ 200
  asc : ∀ l, Asc (lo l)
  lt : ∀ l, ∀ x ∈ lo l, x < J.length
section
variable {P : Program} {w : World} {K : PySem.W.Frag} {mg : Str → Option Value} {base : Heap}
def sp_stands_with (K : PySem.W.Frag) (w : World) : Sp := fun vs H Q _ => ∃ (hp lp : Addr) (J : List (List Nat)) (lo : Nat → List Nat) (k : Kd) (v : V), vs = [.ref hp, v] ∧ HouseAt K H hp lp J lo ∧ HsOk J lo ∧ KdAt H k v ∧ k.lets 26 ∧ k.size ≤ 100 ∧ k.calm w ∧
  ∀ (H' : Hp) (p : Addr), Same H H' → H' p = some (.tup ((stN J lo k).map nV)) → Q (.ref p) H'
theorem sc_stands_with : FnScope ["house", "kind"] ["house", "kind"] (defScope s_stands_with) := ⟨rfl, rfl, rfl, by decide +kernel, rfl, by decide +kernel, by decide +kernel⟩
theorem ok_stands_with (T : Txt K mg) : Pr P w K mg base 5 "stands_with" ["house", "kind"] (sp_stands_with K w) := by
  have G_check_kind : Pr P w K mg base 4 "check_kind" _ _ := ok_check_kind T
  have G_stands_of : Pr P w K mg base 1 "stands_of" _ _ := ok_stands_of T
  have G_has_of : Pr P w K mg base 3 "has_of" _ _ := ok_has_of T
  refine T.d_stands_with.pr sc_stands_with (fun vs H Q E h => ?_) (fun _ _ _ _ _ _ us hl => match us, hl with | [_, _], _ => rfl) (fun f cdv A outer s H vs Q E hr h => ?_)
  · obtain ⟨hp, lp, J, lo, k, v, rfl, _⟩ := h
    rfl
  · obtain ⟨hp, lp, J, lo, k, v, rfl, hH, ok, hk, hl, hz, hc, q⟩ := h
    refine ⟨_, (pss_cons (ps_expr (pe_callP G_check_kind hr (by decide) (pa_cons (pv 1) pa_nil)))
    (pss_one (ps_ret (pe_callP G_stands_of hr (by decide) (pa_cons (pe_callP G_has_of hr (by decide) (pa_cons (pv 0) (pa_cons (pv 1) (pa_cons pe_knew pa_nil)))) pa_nil))))), ?_⟩
    simp only [st_c, st_n, st_0]
    refine ⟨_, rfl, k, v, rfl, hk, hl, Nat.le_trans hz (by decide), fun H1 s1 => ?_⟩
    refine ⟨_, rfl, _, rfl, fun d hd => ?_⟩
    have t1 : Same H1 (upd H1 d (KnO w d [])) := same_upd hd
    have s2 := s1.trans t1
    refine ⟨hp, lp, d, J, lo, k, v, [], _, rfl, hH.same s2, ok.M, ok.n, ok.asc, ok.lt, upd_same, (hasU_one hk hc).same s2, .all, KnGood.nil, Nat.zero_le _, hz, fun H2 zs sx hd2 gz zl => ?_⟩
    have s3 : Same H H2 := sx.same s2 (s1.free hd)
    refine ⟨stN J lo k, rfl, stN_asc ok.asc k, fun x hx => Nat.lt_of_lt_of_le (stN_lt ok.lt k x hx) (Nat.le_trans ok.n (by decide)), fun H3 p s4 hp3 => q H3 p (s3.trans s4) hp3⟩
/-- the answer of is_against -/
def agN (J : List (List Nat)) (lo : Nat → List Nat) (ts : List (Str × Kd)) (k : Kd) : Bool := (ts.all fun t => decide (0 ∈ stN J lo t.2)) && !decide (0 ∈ stN J lo k)
theorem odd_zero {xs : List Nat} (h : Asc xs) : decide (V.int ((bt xs % 2 : Nat) : Int) = V.int 0) = !decide (0 ∈ xs) := by
  have e := bt_bit xs h 0
  rw [Nat.testBit_zero] at e
  rw [← e]
  by_cases q : bt xs % 2 = 1
  · rw [decide_eq_true q]
    exact decide_eq_false fun z => by injection z with z; omega
  · rw [decide_eq_false q]
    exact decide_eq_true (by congr 1; omega)
def sp_is_against_there (K : PySem.W.Frag) : Sp := fun vs H Q _ => ∃ (p lp : Addr) (z : Str) (ms : List Nat) (ts : List (Str × Kd)) (k : Kd) (v th : V), vs = [.ref p, v, th] ∧ BookAt K H p lp ts ∧ LotAt K H lp z ms ∧ ToolsOk ts ∧ (∀ t ∈ ts, t.2.size ≤ 9) ∧ KdAt H k v ∧ k.lets 26 ∧ k.size ≤ 9 ∧
  ((∃ t, TyX K H th t ∧ PySem.W.kitOne K t (.ref (He.ga K "House")) = some false ∧ ∀ H', Same H H' → Q (.bl false) H') ∨
   ∃ (hp lp2 : Addr) (z2 : Str) (m2 : List Nat) (J : List (List Nat)) (lo : Nat → List Nat), th = .ref hp ∧ HouseAt K H hp lp2 J lo ∧ HsOk J lo ∧ LotAt K H lp2 z2 m2 ∧ ∀ H', Same H H' → Q (.bl (decide (z2 = z ∧ m2 = ms) && agN J lo ts k)) H')
theorem sc_is_against_there : FnScope ["book", "kind", "thing", "known", "name", "other"] ["book", "kind", "thing"] (defScope s_is_against_there) := ⟨rfl, rfl, rfl, by decide +kernel, rfl, by decide +kernel, by decide +kernel⟩
theorem ok_is_against_there (T : Txt K mg) : Pr P w K mg base 4 "is_against_there" ["book", "kind", "thing"] (sp_is_against_there K) := by
  have G_has_of : Pr P w K mg base 3 "has_of" _ _ := ok_has_of T
  obtain ⟨fdE, F_ne, B_ne⟩ := (ok_Lot_eq (P := P) (w := w) (base := base) T).ex
  refine T.d_is_against_there.pr sc_is_against_there (fun vs H Q E h => ?_) (fun _ _ _ _ _ _ us hl => match us, hl with | [_, _, _], _ => rfl) (fun f cdv A outer s H vs Q E hr h => ?_)
  · obtain ⟨p, lp, z, ms, ts, k, v, th, rfl, _⟩ := h
    rfl
  · obtain ⟨p, lp, z, ms, ts, k, v, th, rfl, hB, hL, tok, tsz, hk, klt, ksz, hq⟩ := h
    refine ⟨_, (pss_cons (ps_if (PW.pt (pw_or (pt_not (pt_val (pe_callB call_isi rfl T.b_isinstance (by decide +kernel) (pa_cons (pv 2) (pa_cons (pe_glob (v := .ref (He.ga K "House")) (by rfl) T.g_House rfl) pa_nil))))) (pw_or1 (pt_cmpR (op_neO F_ne B_ne T.t_Lot_eq T.o_Lot T.ne_Lot hr (by decide)) (pe_fld (pv 2) rfl) (pe_fld (pv 0) rfl) (nomark _)))))
      (pss_one (ps_ret pe_bl))
      pss_nil)
    (pss_cons (ps_s 3 sc_is_against_there.nd pe_knew)
    (pss_cons (ps_for PassesOwn.never rfl (pi_tup (pe_fld (pv 0) rfl)) (pg_tup rfl (pgs_cons (pg_n 4 sc_is_against_there.nd) (pgs_cons (pg_n 5 sc_is_against_there.nd) pgs_nil)))
      (pss_one (ps_if (pt_cmpR op_eq (pe_op op_odd (pe_callP G_has_of hr (by decide) (pa_cons (pv 2) (pa_cons (pv 5) (pa_cons (pv 3) pa_nil)))) pe_int) pe_int (nomark _))
        (pss_one (ps_ret pe_bl))
        pss_nil)))
    (pss_one (ps_ret (pe_cmpR op_eq (pe_op op_odd (pe_callP G_has_of hr (by decide) (pa_cons (pv 2) (pa_cons (pv 1) (pa_cons (pv 3) pa_nil)))) pe_int) pe_int (nomark _))))))), ?_⟩
    simp only [st_c, st_n, st_0]
    obtain ⟨dx, ta, b1, bT⟩ := hB.ex
    rcases hq with ⟨t, ty, kit, q⟩ | ⟨hp, lp2, z2, m2, J, lo, rfl, hH, ok, hL2, q⟩
    · exact ⟨_, rfl, _, _, _, _, false, rfl, .own _, ty, kit, false, rfl, iteT (q H (Same.refl _))⟩
    obtain ⟨dh, ja, dk, h1, h2, h3⟩ := id hH.ex
    obtain ⟨dl, mk, lz, l1, l2⟩ := id hL.ex
    obtain ⟨dl2, mk2, lz2, l3, l4⟩ := id hL2.ex
    refine ⟨_, rfl, _, _, _, _, true, rfl, .own _, T.o_House.ty h1, kit_own _, true, rfl, iteF ?_⟩
    refine ⟨_, rfl, hp, _, dh, _, _, rfl, h1, T.o_House.cl, T.n_House_lot, rfl, _, rfl, p, _, dx, _, _, rfl, b1, T.o_Book.cl, T.n_Book_lot, rfl, ?_⟩
    refine ⟨lp2, lp, dl2, dl, _, _, rfl, rfl, l3, l1, lp2, lp, z2, z, m2, ms, rfl, hL2, hL, ?_⟩
    refine ⟨_, rfl, _, rfl, ?_⟩
    by_cases same : z2 = z ∧ m2 = ms
    · rw [decide_eq_true same] at q ⊢
      refine iteF ?_
      intro d hd
      have t1 : Same H (upd H d (KnO w d [])) := same_upd hd
      obtain ⟨bs, hbs, hts⟩ := id bT
      have hbl : bs.length = ts.length := pairedLen hts
      have tl := tok.len
      have dep : ∀ k : Kd, k.size ≤ 9 → k.depth ≤ 8 := fun k h => by have := Kd.depth_lt k; omega
      have hU := hasU_many (w := w) (H := H) (L := fun k0 v0 => (k0 = k ∧ v0 = v) ∨ (k0.size ≤ 9 ∧ KdAt H k0 v0)) (fun k0 v0 h => by
        rcases h with ⟨e1, e2⟩ | ⟨e1, e2⟩
        · rw [e1, e2]; exact ⟨hk, dep k ksz⟩
        · exact ⟨e2, dep k0 e1⟩)
      have hU1 := hU.same t1
      refine ⟨_, rfl, p, _, dx, _, _, rfl, t1 _ _ b1, T.o_Book.cl, T.n_Book_tools, rfl, ta, rfl, ⟨_, SqT.of (t1 _ _ hbs)⟩, ?_⟩
      refine for_it walk_tup (fun i σ H' => ∃ v4 v5 zs, σ = [some (.ref p), some v, some (.ref hp), some (.ref d), v4, v5] ∧ Same H H' ∧ SameX d (upd H d (KnO w d [])) H' ∧ H' d = some (KnO w d zs) ∧ KnGood (fun k' v' => ∃ k0 v0, ((k0 = k ∧ v0 = v) ∨ (k0.size ≤ 9 ∧ KdAt H k0 v0)) ∧ SubAt H k0 v0 k' v') J lo zs ∧ zs.length ≤ 60 * i ∧ ((ts.take i).all fun t => decide (0 ∈ stN J lo t.2)) = true)
        ⟨_, _, [], rfl, t1, fun b o _ e => e, upd_same, KnGood.nil, Nat.le_refl _, rfl⟩ (fun i σ H' _ ⟨_, _, _, _, s, _⟩ => SqT.of (s _ _ hbs)) ?_ ?_
      · rintro i x σ _ H' hi ⟨v4, v5, zs, rfl, s1, sx, hd1, gz, zl, hall⟩ ⟨rfl, hx⟩
        obtain ⟨c, hc, rfl⟩ := ref_at hx
        obtain ⟨t, ht, vv, hv, hkd⟩ := pairedAt2 hts hc
        have tm := List.mem_of_getElem? ht
        have il : i < 3 := by have := (List.getElem?_eq_some_iff.mp ht).1; omega
        refine ⟨c, _, rfl, SqT.of (s1 _ _ hv), rfl, _, _, rfl, _, _, rfl, rfl, ?_⟩
        refine ⟨_, rfl, _, rfl, _, rfl, hp, lp2, d, J, lo, t.2, vv, zs, _, rfl, hH.same s1, ok.M, ok.n, ok.asc, ok.lt, hd1, hU1.keepE upd_same sx, ⟨t.2, vv, .inr ⟨tsz t tm, hkd⟩, .all⟩, gz, by omega, Nat.le_trans (tsz t tm) (by decide), fun H2 zs2 sx2 hd2 gz2 zl2 => ?_⟩
        refine ⟨_, rfl, rfl, rfl, _, rfl, ?_⟩
        have s2 : Same H H2 := sx2.same s1 hd
        rw [odd_zero (stN_asc ok.asc t.2)]
        by_cases h0 : 0 ∈ stN J lo t.2
        · rw [decide_eq_true h0]
          refine iteF ⟨_, _, zs2, rfl, s2, fun b o nb e => sx2 b o nb (sx b o nb e), hd2, gz2, ?_, ?_⟩
          · have := tsz t tm
            omega
          · rw [List.take_add_one, ht, List.all_append, hall]
            simp [h0]
        · rw [decide_eq_false h0]
          refine iteT (qb (q H2 s2) ?_)
          unfold agN
          have : (ts.all fun t => decide (0 ∈ stN J lo t.2)) = false := List.all_eq_false.mpr ⟨t, tm, by simp [h0]⟩
          rw [this]
          rfl
      · rintro σ H' ⟨v4, v5, zs, rfl, s1, sx, hd1, gz, zl, hall⟩
        rw [List.length_map, hbl, List.take_length] at hall
        rw [List.length_map] at zl
        refine ⟨_, rfl, _, rfl, _, rfl, hp, lp2, d, J, lo, k, v, zs, _, rfl, hH.same s1, ok.M, ok.n, ok.asc, ok.lt, hd1, hU1.keepE upd_same sx, ⟨k, v, .inl ⟨rfl, rfl⟩, .all⟩, gz, by omega, Nat.le_trans ksz (by decide), fun H2 zs2 sx2 hd2 gz2 zl2 => ?_⟩
        have s2 : Same H H2 := sx2.same s1 hd
        refine ⟨_, rfl, rfl, rfl, qb (q H2 s2) ?_⟩
        rw [odd_zero (stN_asc ok.asc k)]
        unfold agN
        rw [hall]
        rfl
    · rw [decide_eq_false same] at q ⊢
      exact iteT (q H (Same.refl _))
def sp_is_against (K : PySem.W.Frag) : Sp := fun vs H Q _ => ∃ (p lp : Addr) (z : Str) (ms : List Nat) (ts : List (Str × Kd)) (k : Kd) (v th : V), vs = [.ref p, v, th] ∧ BookAt K H p lp ts ∧ LotAt K H lp z ms ∧ (z = "once" → ts = []) ∧ ToolsOk ts ∧ (∀ t ∈ ts, t.2.size ≤ 9) ∧ KdAt H k v ∧ k.lets 26 ∧ k.size ≤ 9 ∧
  ((∃ t, TyX K H th t ∧ PySem.W.kitOne K t (.ref (He.ga K "House")) = some false ∧ (∀ H', Same H H' → TyX K H' th t) ∧ ∀ H', Same H H' → Q (.bl false) H') ∨
   ∃ (hp lp2 : Addr) (z2 : Str) (m2 : List Nat) (J : List (List Nat)) (lo : Nat → List Nat), th = .ref hp ∧ HouseAt K H hp lp2 J lo ∧ HsOk J lo ∧ LotAt K H lp2 z2 m2 ∧ ∀ H', Same H H' → Q (.bl (decide (z2 = z ∧ m2 = ms) && agN J lo ts k)) H')
theorem sc_is_against : FnScope ["book", "kind", "thing"] ["book", "kind", "thing"] (defScope s_is_against) := ⟨rfl, rfl, rfl, by decide +kernel, rfl, by decide +kernel, by decide +kernel⟩
theorem ok_is_against (T : Txt K mg) : Pr P w K mg base 6 "is_against" ["book", "kind", "thing"] (sp_is_against K) := by
  have G_check_task : Pr P w K mg base 5 "check_task" _ _ := ok_check_task T
  have G_is_against_there : Pr P w K mg base 4 "is_against_there" _ _ := ok_is_against_there T
  refine T.d_is_against.pr sc_is_against (fun vs H Q E h => ?_) (fun _ _ _ _ _ _ us hl => match us, hl with | [_, _, _], _ => rfl) (fun f cdv A outer s H vs Q E hr h => ?_)
  · obtain ⟨p, lp, z, ms, ts, k, v, th, rfl, _⟩ := h
    rfl
  · obtain ⟨p, lp, z, ms, ts, k, v, th, rfl, hB, hL, ho, tok, tsz, hk, klt, ksz, hq⟩ := h
    refine ⟨_, (pss_cons (ps_expr (pe_callP G_check_task hr (by decide) (pa_cons (pv 0) (pa_cons (pv 1) pa_nil))))
    (pss_one (ps_ret (pe_callP G_is_against_there hr (by decide) (pa_cons (pv 0) (pa_cons (pv 1) (pa_cons (pv 2) pa_nil))))))), ?_⟩
    simp only [st_c, st_n, st_0]
    refine ⟨_, rfl, _, rfl, p, lp, z, ms, ts, k, v, rfl, hB, hL, ho, tok.len, hk, klt, Nat.le_trans ksz (by decide), fun H1 s1 => ?_⟩
    refine ⟨_, rfl, _, rfl, _, rfl, p, lp, z, ms, ts, k, v, th, rfl, hB.same s1, hL.same s1, tok, tsz, hk.same s1, klt, ksz, ?_⟩
    rcases hq with ⟨t, ty, kit, tys, q⟩ | ⟨hp, lp2, z2, m2, J, lo, e, hH, ok, hL2, q⟩
    · exact .inl ⟨t, tys H1 s1, kit, fun H2 s2 => q H2 (s1.trans s2)⟩
    · exact .inr ⟨hp, lp2, z2, m2, J, lo, e, hH.same s1, ok, hL2.same s1, fun H2 s2 => q H2 (s1.trans s2)⟩
end
end UC
set_option Elab.async false
set_option linter.all false
set_option maxRecDepth 100000
set_option maxHeartbeats 8000000
/-! The pool of draws: it is one hidden thing, so that a draw leaves the heap as it was. -/
namespace UC
open PySem PySem.Spec PyProof.Rows L2
def poolV (c : Addr) (i1 : Nat) (i2 i3 i4 : Int) : List V := [.ref c, nV i1, .int i2, .int i3, .int i4]
/-- a pool at d, its cells at c, n of them -/
def PoolO (d c : Addr) (n : Nat) : HO := .ext fun h => ∃ (i1 : Nat) (i2 i3 i4 : Int) (its : List Value) (k : Nat), i1 ≤ n ∧ Vals (poolV c i1 i2 i3 i4) its ∧ h.get? d = some { cls := .type "list", data := .seq its.toArray k }
section
variable {X : Cx} {pins : List (Addr × Obj)} {σ : L2.St} {H : Hp} {s : Shared} {d c : Addr} {n : Nat}
theorem Inv.unhide (I : Inv X pins σ H s) (h : H d = some (PoolO d c n)) : ∃ (i1 : Nat) (i2 i3 i4 : Int), i1 ≤ n ∧ Inv X pins σ (upd H d (.lst (poolV c i1 i2 i3 i4))) s := by
  obtain ⟨⟨i1, i2, i3, i4, its, k, hi, rv, hg⟩, _, _⟩ := I.hok d _ h
  exact ⟨i1, i2, i3, i4, hi, I.write (x := d) (e := d) (t' := s.toks) (h' := s.heap) (by rw [h]; trivial) (.inl rfl) (fun b v _ q => q) ⟨_, hg⟩ ⟨(by show 5 ≤ sizeLine; decide), its, k, rv, hg⟩⟩
theorem Inv.hide {i1 : Nat} {i2 i3 i4 : Int} (I : Inv X pins σ H s) (h : H d = some (.lst (poolV c i1 i2 i3 i4))) (hi : i1 ≤ n) : Inv X pins σ (upd H d (PoolO d c n)) s := by
  obtain ⟨_, its, k, rv, hg⟩ := I.hok d _ h
  refine I.write (x := d) (e := d) (t' := s.toks) (h' := s.heap) (by rw [h]; trivial) (.inl rfl) (fun b v _ q => q) ⟨_, hg⟩ ⟨⟨i1, i2, i3, i4, its, k, hi, rv, hg⟩, ⟨_, hg⟩, ?_⟩
  rintro h1 h2 ⟨i1, i2, i3, i4, its, k, hi, rv, hg⟩ keep
  exact ⟨i1, i2, i3, i4, its, k, hi, rv, keep _ hg⟩
end
/-- what is at d when a def returns is hidden again -/
def hideRt (d c : Addr) (n : Nat) (Q : VK) : VK := fun v H' => ∃ (j1 : Nat) (j2 j3 j4 : Int), j1 ≤ n ∧ H' d = some (.lst (poolV c j1 j2 j3 j4)) ∧ Q v (upd H' d (PoolO d c n))
/-- the block runs while the pool is open -/
def tPool (t : TS) : TS := fun D σ H => ∃ d c n, H d = some (PoolO d c n) ∧ ∀ (i1 : Nat) (i2 i3 i4 : Int), i1 ≤ n → t ⟨fun _ _ => False, hideRt d c n D.rt, fun _ _ => False, fun _ _ => False⟩ σ (upd H d (.lst (poolV c i1 i2 i3 i4)))
theorem pss_pool {X : Cx} {sts : List Stmt} {t : TS} (h : PSs X sts t) : PSs X sts (tPool t) := by
  refine ⟨fun pins s σ H D I hw => ?_⟩
  obtain ⟨d, c, n, hd, hw⟩ := hw
  obtain ⟨i1, i2, i3, i4, hi, I1⟩ := Inv.unhide I hd
  refine thn (h.run pins s σ _ _ I1 (hw i1 i2 i3 i4 hi)) fun f s1 q => ?_
  cases f with
  | next => obtain ⟨_, _, _, z⟩ := q; exact z.elim
  | brk => obtain ⟨_, _, _, z⟩ := q; exact z.elim
  | cont => obtain ⟨_, _, _, z⟩ := q; exact z.elim
  | ret v =>
    obtain ⟨x, σ1, H1, I2, r, j1, j2, j3, j4, hj, e, q⟩ := q
    exact ⟨x, σ1, _, Inv.hide I2 e hj, r, q⟩
/-- the new list that a block returns is hidden -/
def tHide (t : TS) : TS := fun D σ H => t ⟨fun _ _ => False, fun v H' => ∃ d c n, v = .ref d ∧ hideRt d c n D.rt v H', fun _ _ => False, fun _ _ => False⟩ σ H
theorem pss_hide {X : Cx} {sts : List Stmt} {t : TS} (h : PSs X sts t) : PSs X sts (tHide t) := by
  refine ⟨fun pins s σ H D I hw => ?_⟩
  refine thn (h.run pins s σ _ _ I hw) fun f s1 q => ?_
  cases f with
  | next => obtain ⟨_, _, _, z⟩ := q; exact z.elim
  | brk => obtain ⟨_, _, _, z⟩ := q; exact z.elim
  | cont => obtain ⟨_, _, _, z⟩ := q; exact z.elim
  | ret v =>
    obtain ⟨x, σ1, H1, I2, r, d, c, n, _, j1, j2, j3, j4, hj, e, q⟩ := q
    exact ⟨x, σ1, _, Inv.hide I2 e hj, r, q⟩
theorem cut_ints (xs : List Int) : ∃ ys : List Int, cutV (xs.map V.int) none (some 63) = ys.map V.int ∧ ys.length ≤ 63 := by
  refine ⟨(xs.drop (HT.sIx (xs.map V.int).length 0 none)).take (HT.sIx (xs.map V.int).length (xs.map V.int).length (some 63) - HT.sIx (xs.map V.int).length 0 none), ?_, ?_⟩
  · unfold cutV
    rw [List.map_take, List.map_drop]
  · refine Nat.le_trans (List.length_take_le ..) ?_
    refine Nat.le_trans (Nat.sub_le ..) ?_
    unfold HT.sIx
    simp
    omega
/-- a pool in the heap -/
def PoolAt (H : Hp) (d : Addr) : Prop := ∃ (c : Addr) (cells : List Int), H d = some (PoolO d c cells.length) ∧ H c = some (.lst (cells.map V.int))
theorem PoolAt.same {H H' : Hp} {d : Addr} (e : Same H H') (h : PoolAt H d) : PoolAt H' d := by
  obtain ⟨c, cells, h1, h2⟩ := h
  exact ⟨c, cells, e _ _ h1, e _ _ h2⟩
theorem upd_back {H : Hp} {d : Addr} {o u : HO} (h : H d = some o) : upd (upd H d u) d o = H := by
  funext b
  by_cases e : b = d
  · rw [e, upd_same, h]
  · rw [upd_ne e, upd_ne e]
theorem upd_upd {H : Hp} {d : Addr} {o u : HO} : upd (upd H d u) d o = upd H d o := by
  funext b
  by_cases e : b = d
  · rw [e, upd_same, upd_same]
  · rw [upd_ne e, upd_ne e, upd_ne e]
section
variable {P : Program} {w : World} {K : PySem.W.Frag} {mg : Str → Option Value} {base : Heap}
def sp_law_pool (K : PySem.W.Frag) : Sp := fun vs H Q _ => ∃ (a : Addr) (xs : List Int), vs = [.ref a] ∧ SqL K H a (xs.map V.int) ∧ ∀ (H' : Hp) (d : Addr), Same H H' → PoolAt H' d → Q (.ref d) H'
theorem sc_law_pool : FnScope ["_law_script", "_law_cell"] ["_law_script"] (defScope s_law_pool) := ⟨rfl, rfl, rfl, by decide +kernel, rfl, by decide +kernel, by decide +kernel⟩
theorem ok_law_pool (T : Txt K mg) : Pr P w K mg base 1 "_law_pool" ["_law_script"] (sp_law_pool K) := by
  refine T.d_law_pool.pr sc_law_pool (fun vs H Q E h => ?_) (fun _ _ _ _ _ _ us hl => match us, hl with | [_], _ => rfl) (fun f cdv A outer s H vs Q E hr h => ?_)
  · obtain ⟨a, xs, rfl, _⟩ := h
    rfl
  · obtain ⟨a, xs, rfl, ha, k⟩ := h
    refine ⟨_, pss_hide (pss_one (ps_ret (pe_lst (pa_cons (pe_lc (own := [("_law_cell", 1)]) (g := gName 1) (tt := tYes) rfl sc_law_pool.nd (pi_list (pe_slice sl_list (pv 0) po_none (po_some pe_int))) (blkOk_by (N := ["_law_script", "_law_cell"]) (sc := defScope s_law_pool) (by decide +kernel)) (fun _ _ _ _ _ => (pg_n 1 sc_law_pool.nd)) (fun _ _ _ _ _ => pts_nil) (fun _ _ _ _ _ => (pe_callB call_abs rfl T.b_abs (by decide +kernel) (pa_cons (pe_callTy call_int1 rfl T.b_int (by decide +kernel) (pa_cons (pv 1) pa_nil)) pa_nil)))) (pa_cons pe_int (pa_cons pe_int (pa_cons (pe_op op_add pe_int (pe_callB call_len rfl T.b_len (by decide +kernel) (pa_cons (pv 0) pa_nil))) (pa_cons pe_int pa_nil)))))))), ?_⟩
    refine ⟨_, rfl, _, rfl, a, _, rfl, ha, fun q1 hq1 => ?_⟩
    obtain ⟨ys, ey, ly⟩ := cut_ints xs
    rw [ey]
    have t1 : Same H (upd H q1 (.lst (ys.map V.int))) := same_upd hq1
    have hq2 : (upd H q1 (.lst (ys.map V.int))) q1 = some (.lst (ys.map V.int)) := upd_same
    generalize upd H q1 (.lst (ys.map V.int)) = H1 at t1 hq2 ⊢
    refine ⟨q1, rfl, ⟨_, SqL.of hq2⟩, fun D hD => ?_⟩
    refine lc_it walk_list (LcP H1 D (fun i acc _ => acc = ((ys.take i).map fun y => V.int (if y < 0 then -y else y)))) (LcP.zero hD rfl) (fun i H2 _ ⟨_, s1, _⟩ => SqL.of (s1 _ _ hq2)) ?_ fun H2 h2 => ?_
    · rintro i x H2 _ hi ⟨acc, s1, hda, hle, e⟩ ⟨rfl, hx⟩
      rw [List.getElem?_map] at hx
      cases ez : ys[i]? with
      | none => rw [ez] at hx; cases hx
      | some z =>
        rw [ez] at hx
        cases (show V.int z = x from Option.some.inj hx)
        refine ⟨rfl, tyes ?_⟩
        refine ⟨_, rfl, .inl ⟨z, rfl, z, rfl, ?_⟩⟩
        refine LcP.put hD s1 hda hle (Nat.lt_of_lt_of_le hi (by rw [List.length_map]; exact Nat.le_trans ly (by decide))) (Same.refl _) ?_
        rw [e]
        exact take_succ_map ez
    obtain ⟨acc, s2, hda, _, e⟩ := h2
    rw [List.length_map, List.take_length] at e
    have e2 : acc = (ys.map fun y => if y < 0 then -y else y).map V.int := by rw [e, List.map_map]; rfl
    rw [e2] at hda
    have s12 := t1.trans s2
    refine ⟨_, rfl, _, xs.length, rfl, .inl ⟨_, s12.seq ha, (List.length_map ..).symm⟩, _, _, rfl, rfl, Nat.le_of_ble_eq_true rfl, fun p hp => ?_⟩
    refine ⟨p, D, (ys.map fun y => if y < 0 then -y else y).length, rfl, 0, 0, 1 + (xs.length : Int), 0, Nat.zero_le _, upd_same, ?_⟩
    rw [upd_upd]
    have t3 := same_upd (o := PoolO p D (ys.map fun y => if y < 0 then -y else y).length) hp
    exact k _ p (s12.trans t3) ⟨D, _, upd_same, t3 _ _ hda⟩
theorem pset1 {H : Hp} {d c : Addr} {i1 : Nat} {i2 i3 i4 : Int} : upd (upd H d (.lst (poolV c i1 i2 i3 i4))) d (.lst ((poolV c i1 i2 i3 i4).set 1 (.int ((i1 : Int) + 1)))) = upd H d (.lst (poolV c (i1 + 1) i2 i3 i4)) := upd_upd
theorem pset2 {H : Hp} {d c : Addr} {i1 : Nat} {i2 i3 i4 z : Int} : upd (upd H d (.lst (poolV c i1 i2 i3 i4))) d (.lst ((poolV c i1 i2 i3 i4).set 2 (.int z))) = upd H d (.lst (poolV c i1 z i3 i4)) := upd_upd
theorem pset3 {H : Hp} {d c : Addr} {i1 : Nat} {i2 i3 i4 z : Int} : upd (upd H d (.lst (poolV c i1 i2 i3 i4))) d (.lst ((poolV c i1 i2 i3 i4).set 3 (.int z))) = upd H d (.lst (poolV c i1 i2 z i4)) := upd_upd
theorem pset4 {H : Hp} {d c : Addr} {i1 : Nat} {i2 i3 i4 z : Int} : upd (upd H d (.lst (poolV c i1 i2 i3 i4))) d (.lst ((poolV c i1 i2 i3 i4).set 4 (.int z))) = upd H d (.lst (poolV c i1 i2 i3 z)) := upd_upd
theorem modB {x k : Int} (h : 0 < k) (l : k ≤ 2 ^ 64) : -(2 ^ 64) < x % k ∧ x % k < 2 ^ 64 := by
  have a := Int.emod_nonneg x (Int.ne_of_gt h)
  have b := Int.emod_lt_of_pos x h
  exact ⟨by omega, by omega⟩
def sp_law_draw : Sp := fun vs H Q _ => ∃ (d : Addr) (m : Nat), vs = [.ref d, nV m] ∧ PoolAt H d ∧ 1 ≤ m ∧ m ≤ 1000 ∧ ∀ r : Nat, r < m → Q (nV r) H
theorem sc_law_draw : FnScope ["_law_pool_here", "_law_many", "_law_cell", "_law_mixed", "_law_digit"] ["_law_pool_here", "_law_many"] (defScope s_law_draw) := ⟨rfl, rfl, rfl, by decide +kernel, rfl, by decide +kernel, by decide +kernel⟩
theorem ok_law_draw (T : Txt K mg) : Pr P w K mg base 1 "_law_draw" ["_law_pool_here", "_law_many"] sp_law_draw := by
  refine T.d_law_draw.pr sc_law_draw (fun vs H Q E h => ?_) (fun _ _ _ _ _ _ us hl => match us, hl with | [_, _], _ => rfl) (fun f cdv A outer s H vs Q E hr h => ?_)
  · obtain ⟨d, m, rfl, _⟩ := h
    rfl
  · obtain ⟨d, m, rfl, ⟨c, cells, hd, hc⟩, m1, m2, k⟩ := h
    refine ⟨_, pss_pool (pss_cons (ps_if (PW.pt (pw_and (pt_cmpR op_eq (pe_ix ix_list (pv 0) pe_int (fun _ _ => rfl)) pe_int (nomark _)) (pw_and1 (pt_cmpR op_lt (pe_ix ix_list (pv 0) pe_int (fun _ _ => rfl)) (pe_callB call_len rfl T.b_len (by decide +kernel) (pa_cons (pe_ix ix_list (pv 0) pe_int (fun _ _ => rfl)) pa_nil)) (nomark _)))))
      (pss_cons (ps_s 2 sc_law_draw.nd (pe_ix ix_lt (pe_ix ix_list (pv 0) pe_int (fun _ _ => rfl)) (pe_ix ix_list (pv 0) pe_int (fun _ _ => rfl)) (fun _ _ => rfl)))
      (pss_cons (ps_asg (pe_op op_add (pe_ix ix_list (pv 0) pe_int (fun _ _ => rfl)) pe_int) (pg_sub (pv 0) pe_int set_list))
      (pss_one (ps_if (pt_cmpR op_ge (pv 2) (pe_op op_pow pe_int pe_int) (nomark _))
        (pss_one (ps_asg (pv 2) (pg_sub (pv 0) pe_int set_list)))
        (pss_cons (ps_s 3 sc_law_draw.nd (pe_op op_add (pe_op op_mul (pe_op op_mod (pe_callTy call_int1 rfl T.b_int (by decide +kernel) (pa_cons (pv 2) pa_nil)) pe_int) pe_int) (pe_ix ix_list (pv 0) pe_int (fun _ _ => rfl))))
        (pss_one (ps_asg (pe_op op_mod (pe_callTy call_int1 rfl T.b_int (by decide +kernel) (pa_cons (pe_op op_add (pe_op op_mul (pe_ix ix_list (pv 0) pe_int (fun _ _ => rfl)) pe_int) (pv 3)) pa_nil)) pe_int) (pg_sub (pv 0) pe_int set_list))))))))
      pss_nil)
    (pss_cons (ps_if (pt_cmpR op_gt (pe_ix ix_list (pv 0) pe_int (fun _ _ => rfl)) pe_int (nomark _))
      (pss_cons (ps_s 4 sc_law_draw.nd (pe_op op_mod (pe_callTy call_int1 rfl T.b_int (by decide +kernel) (pa_cons (pe_ix ix_list (pv 0) pe_int (fun _ _ => rfl)) pa_nil)) (pv 1)))
      (pss_cons (ps_asg (pe_op op_fdiv (pe_callTy call_int1 rfl T.b_int (by decide +kernel) (pa_cons (pe_ix ix_list (pv 0) pe_int (fun _ _ => rfl)) pa_nil)) (pv 1)) (pg_sub (pv 0) pe_int set_list))
      (pss_one (ps_ret (pv 4)))))
      pss_nil)
    (pss_cons (ps_asg (pe_op op_add (pe_ix ix_list (pv 0) pe_int (fun _ _ => rfl)) pe_int) (pg_sub (pv 0) pe_int set_list))
    (pss_cons (ps_asg (pe_op op_mod (pe_callTy call_int1 rfl T.b_int (by decide +kernel) (pa_cons (pe_op op_add (pe_op op_add (pe_op op_mul (pe_ix ix_list (pv 0) pe_int (fun _ _ => rfl)) pe_int) (pe_op op_mul pe_int (pe_ix ix_list (pv 0) pe_int (fun _ _ => rfl)))) pe_int) pa_nil)) pe_int) (pg_sub (pv 0) pe_int set_list))
    (pss_cons (ps_s 3 sc_law_draw.nd (pe_op op_mod (pe_callTy call_int1 rfl T.b_int (by decide +kernel) (pa_cons (pe_op op_mul (pe_ix ix_list (pv 0) pe_int (fun _ _ => rfl)) (pe_op op_add (pe_op op_fdiv (pe_ix ix_list (pv 0) pe_int (fun _ _ => rfl)) pe_int) pe_int)) pa_nil)) pe_int))
    (pss_cons (ps_s 3 sc_law_draw.nd (pe_op op_mod (pe_callTy call_int1 rfl T.b_int (by decide +kernel) (pa_cons (pe_op op_mul (pv 3) (pe_op op_add (pe_op op_fdiv (pv 3) pe_int) pe_int)) pa_nil)) pe_int))
    (pss_one (ps_ret (pe_op op_mod (pe_callTy call_int1 rfl T.b_int (by decide +kernel) (pa_cons (pe_op op_fdiv (pv 3) pe_int) pa_nil)) (pv 1)))))))))), ?_⟩
    refine ⟨d, c, cells.length, hd, fun i1 i2 i3 i4 hi => ?_⟩
    have ncd : c ≠ d := fun e => by rw [e, hd] at hc; cases hc
    have mp : (0 : Int) < (m : Int) := by omega
    have mq : (m : Int) < 1073741824 := by omega
    have fin : ∀ (j1 : Nat) (j2 j3 j4 : Int), j1 ≤ cells.length → ∀ (z : Int) (v : V), v = V.int (z % (m : Int)) → hideRt d c cells.length Q v (upd H d (.lst (poolV c j1 j2 j3 j4))) := by
      intro j1 j2 j3 j4 hj z v hv
      have r0 := Int.emod_nonneg z (show (m : Int) ≠ 0 by omega)
      have r1 := Int.emod_lt_of_pos z mp
      refine ⟨j1, j2, j3, j4, hj, upd_same, ?_⟩
      rw [upd_back hd, hv]
      have e : V.int (z % (m : Int)) = nV (z % (m : Int)).toNat := by
        show _ = V.int (((z % (m : Int)).toNat : Nat) : Int)
        rw [Int.toNat_of_nonneg r0]
      rw [e]
      exact k _ (by omega)
    have hc1 : ∀ u, (upd H d u) c = some (.lst (cells.map V.int)) := fun u => by rw [upd_ne ncd]; exact hc
    refine ⟨_, rfl, d, _, 2, _, rfl, rfl, SqL.of upd_same, rfl, rfl, _, rfl, ?_⟩
    rw [dec_int]
    by_cases c1 : i2 = 0
    · rw [show (i2 == 0) = true from beq_iff_eq.mpr c1]
      refine iteT ?_
      refine ⟨_, rfl, d, _, 1, _, rfl, rfl, SqL.of upd_same, rfl, _, rfl, d, _, 0, _, rfl, rfl, SqL.of upd_same, rfl, _, cells.length, rfl, .inl ⟨_, SqL.of (hc1 _), (List.length_map ..).symm⟩, _, _, rfl, rfl, _, rfl, ?_⟩
      by_cases c2 : (i1 : Int) < (cells.length : Int)
      · rw [decide_eq_true c2]
        refine iteT ?_
        have lt : i1 < cells.length := by omega
        have e1 : cells[i1]? = some cells[i1] := List.getElem?_eq_getElem lt
        refine ⟨_, rfl, d, _, 0, _, rfl, rfl, SqL.of upd_same, rfl, _, rfl, d, _, 1, _, rfl, rfl, SqL.of upd_same, rfl, c, _, _, V.int cells[i1], rfl, rfl, .inl (hc1 _), atI_nat (by rw [List.getElem?_map, e1]; rfl), ?_⟩
        refine ⟨_, rfl, d, _, 1, _, rfl, rfl, SqL.of upd_same, rfl, _, _, rfl, rfl, _, rfl, d, _, 1, 1, rfl, rfl, upd_same, rfl, ?_⟩
        rw [pset1]
        refine ⟨_, rfl, _, _, rfl, rfl, ⟨by decide, by decide, by decide⟩, _, _, rfl, rfl, _, rfl, ?_⟩
        by_cases c3 : (10 : Int) ^ (18 : Int).toNat ≤ cells[i1]
        · rw [decide_eq_true c3]
          refine iteT ?_
          refine ⟨_, rfl, _, rfl, d, _, 2, 2, rfl, rfl, upd_same, rfl, ?_⟩
          rw [pset2]
          refine ⟨_, rfl, d, _, 2, _, rfl, rfl, SqL.of upd_same, rfl, _, _, rfl, rfl, _, rfl, ?_⟩
          by_cases pos : (0 : Int) < (cells[i1])
          · rw [decide_eq_true pos]
            refine iteT ?_
            refine ⟨_, rfl, d, _, 2, _, rfl, rfl, SqL.of upd_same, rfl, .inl ⟨_, rfl, _, rfl, _, _, rfl, rfl, mp, ?_⟩⟩
            refine ⟨_, rfl, d, _, 2, _, rfl, rfl, SqL.of upd_same, rfl, .inl ⟨_, rfl, _, rfl, _, _, rfl, rfl, ⟨mp, mq⟩, ?_⟩⟩
            refine ⟨_, rfl, d, _, 2, 2, rfl, rfl, upd_same, rfl, ?_⟩
            rw [pset2]
            refine ⟨_, rfl, ?_⟩
            exact fin _ _ _ _ lt _ _ rfl
          · rw [decide_eq_false pos]
            refine iteF ?_
            refine ⟨_, rfl, d, _, 4, _, rfl, rfl, SqL.of upd_same, rfl, _, _, rfl, rfl, _, rfl, d, _, 4, 4, rfl, rfl, upd_same, rfl, ?_⟩
            rw [pset4]
            refine ⟨_, rfl, d, _, 3, _, rfl, rfl, SqL.of upd_same, rfl, _, _, rfl, rfl, .inr ⟨by decide, by decide⟩, _, rfl, d, _, 4, _, rfl, rfl, SqL.of upd_same, rfl, _, _, rfl, rfl, .inl ⟨by decide, by decide⟩, _, _, rfl, rfl, _, _, rfl, rfl, .inl ⟨_, rfl, _, _, rfl, rfl, (show (0 : Int) < 2147483399 by decide), _, rfl, d, _, 3, 3, rfl, rfl, upd_same, rfl, ?_⟩⟩
            rw [pset3]
            refine ⟨_, rfl, d, _, 3, _, rfl, rfl, SqL.of upd_same, rfl, _, rfl, d, _, 3, _, rfl, rfl, SqL.of upd_same, rfl, _, _, rfl, rfl, ⟨by decide, by decide⟩, _, _, rfl, rfl, _, _, rfl, rfl, .inl (modB (by decide) (by decide)), .inl ⟨_, rfl, _, _, rfl, rfl, (show (0 : Int) < 2147483647 by decide), ?_⟩⟩
            refine ⟨_, rfl, _, rfl, _, _, rfl, rfl, ⟨by decide, by decide⟩, _, _, rfl, rfl, _, _, rfl, rfl, .inl (modB (by decide) (by decide)), .inl ⟨_, rfl, _, _, rfl, rfl, (show (0 : Int) < 2147483629 by decide), ?_⟩⟩
            refine ⟨_, rfl, _, _, rfl, rfl, ⟨by decide, by decide⟩, .inl ⟨_, rfl, _, rfl, _, _, rfl, rfl, mp, ?_⟩⟩
            exact fin _ _ _ _ lt _ _ rfl
        · rw [decide_eq_false c3]
          refine iteF ?_
          refine ⟨_, rfl, .inl ⟨_, rfl, _, _, rfl, rfl, (show (0 : Int) < 2147483629 by decide), _, _, rfl, rfl, .inr ⟨by decide, by decide⟩, _, rfl, d, _, 1, _, rfl, rfl, SqL.of upd_same, rfl, _, _, rfl, rfl, ?_⟩⟩
          refine ⟨_, rfl, d, _, 3, _, rfl, rfl, SqL.of upd_same, rfl, _, _, rfl, rfl, .inr ⟨by decide, by decide⟩, _, rfl, _, _, rfl, rfl, .inl ⟨_, rfl, _, _, rfl, rfl, (show (0 : Int) < 2147483647 by decide), _, rfl, d, _, 3, 3, rfl, rfl, upd_same, rfl, ?_⟩⟩
          rw [pset3]
          refine ⟨_, rfl, d, _, 2, _, rfl, rfl, SqL.of upd_same, rfl, _, _, rfl, rfl, _, rfl, ?_⟩
          by_cases pos : (0 : Int) < i2
          · rw [decide_eq_true pos]
            refine iteT ?_
            refine ⟨_, rfl, d, _, 2, _, rfl, rfl, SqL.of upd_same, rfl, .inl ⟨_, rfl, _, rfl, _, _, rfl, rfl, mp, ?_⟩⟩
            refine ⟨_, rfl, d, _, 2, _, rfl, rfl, SqL.of upd_same, rfl, .inl ⟨_, rfl, _, rfl, _, _, rfl, rfl, ⟨mp, mq⟩, ?_⟩⟩
            refine ⟨_, rfl, d, _, 2, 2, rfl, rfl, upd_same, rfl, ?_⟩
            rw [pset2]
            refine ⟨_, rfl, ?_⟩
            exact fin _ _ _ _ lt _ _ rfl
          · rw [decide_eq_false pos]
            refine iteF ?_
            refine ⟨_, rfl, d, _, 4, _, rfl, rfl, SqL.of upd_same, rfl, _, _, rfl, rfl, _, rfl, d, _, 4, 4, rfl, rfl, upd_same, rfl, ?_⟩
            rw [pset4]
            refine ⟨_, rfl, d, _, 3, _, rfl, rfl, SqL.of upd_same, rfl, _, _, rfl, rfl, .inr ⟨by decide, by decide⟩, _, rfl, d, _, 4, _, rfl, rfl, SqL.of upd_same, rfl, _, _, rfl, rfl, .inl ⟨by decide, by decide⟩, _, _, rfl, rfl, _, _, rfl, rfl, .inl ⟨_, rfl, _, _, rfl, rfl, (show (0 : Int) < 2147483399 by decide), _, rfl, d, _, 3, 3, rfl, rfl, upd_same, rfl, ?_⟩⟩
            rw [pset3]
            refine ⟨_, rfl, d, _, 3, _, rfl, rfl, SqL.of upd_same, rfl, _, rfl, d, _, 3, _, rfl, rfl, SqL.of upd_same, rfl, _, _, rfl, rfl, ⟨by decide, by decide⟩, _, _, rfl, rfl, _, _, rfl, rfl, .inl (modB (by decide) (by decide)), .inl ⟨_, rfl, _, _, rfl, rfl, (show (0 : Int) < 2147483647 by decide), ?_⟩⟩
            refine ⟨_, rfl, _, rfl, _, _, rfl, rfl, ⟨by decide, by decide⟩, _, _, rfl, rfl, _, _, rfl, rfl, .inl (modB (by decide) (by decide)), .inl ⟨_, rfl, _, _, rfl, rfl, (show (0 : Int) < 2147483629 by decide), ?_⟩⟩
            refine ⟨_, rfl, _, _, rfl, rfl, ⟨by decide, by decide⟩, .inl ⟨_, rfl, _, rfl, _, _, rfl, rfl, mp, ?_⟩⟩
            exact fin _ _ _ _ lt _ _ rfl
      · rw [decide_eq_false c2]
        refine iteF ?_
        refine ⟨_, rfl, d, _, 2, _, rfl, rfl, SqL.of upd_same, rfl, _, _, rfl, rfl, _, rfl, ?_⟩
        by_cases pos : (0 : Int) < i2
        · rw [decide_eq_true pos]
          refine iteT ?_
          refine ⟨_, rfl, d, _, 2, _, rfl, rfl, SqL.of upd_same, rfl, .inl ⟨_, rfl, _, rfl, _, _, rfl, rfl, mp, ?_⟩⟩
          refine ⟨_, rfl, d, _, 2, _, rfl, rfl, SqL.of upd_same, rfl, .inl ⟨_, rfl, _, rfl, _, _, rfl, rfl, ⟨mp, mq⟩, ?_⟩⟩
          refine ⟨_, rfl, d, _, 2, 2, rfl, rfl, upd_same, rfl, ?_⟩
          rw [pset2]
          refine ⟨_, rfl, ?_⟩
          exact fin _ _ _ _ hi _ _ rfl
        · rw [decide_eq_false pos]
          refine iteF ?_
          refine ⟨_, rfl, d, _, 4, _, rfl, rfl, SqL.of upd_same, rfl, _, _, rfl, rfl, _, rfl, d, _, 4, 4, rfl, rfl, upd_same, rfl, ?_⟩
          rw [pset4]
          refine ⟨_, rfl, d, _, 3, _, rfl, rfl, SqL.of upd_same, rfl, _, _, rfl, rfl, .inr ⟨by decide, by decide⟩, _, rfl, d, _, 4, _, rfl, rfl, SqL.of upd_same, rfl, _, _, rfl, rfl, .inl ⟨by decide, by decide⟩, _, _, rfl, rfl, _, _, rfl, rfl, .inl ⟨_, rfl, _, _, rfl, rfl, (show (0 : Int) < 2147483399 by decide), _, rfl, d, _, 3, 3, rfl, rfl, upd_same, rfl, ?_⟩⟩
          rw [pset3]
          refine ⟨_, rfl, d, _, 3, _, rfl, rfl, SqL.of upd_same, rfl, _, rfl, d, _, 3, _, rfl, rfl, SqL.of upd_same, rfl, _, _, rfl, rfl, ⟨by decide, by decide⟩, _, _, rfl, rfl, _, _, rfl, rfl, .inl (modB (by decide) (by decide)), .inl ⟨_, rfl, _, _, rfl, rfl, (show (0 : Int) < 2147483647 by decide), ?_⟩⟩
          refine ⟨_, rfl, _, rfl, _, _, rfl, rfl, ⟨by decide, by decide⟩, _, _, rfl, rfl, _, _, rfl, rfl, .inl (modB (by decide) (by decide)), .inl ⟨_, rfl, _, _, rfl, rfl, (show (0 : Int) < 2147483629 by decide), ?_⟩⟩
          refine ⟨_, rfl, _, _, rfl, rfl, ⟨by decide, by decide⟩, .inl ⟨_, rfl, _, rfl, _, _, rfl, rfl, mp, ?_⟩⟩
          exact fin _ _ _ _ hi _ _ rfl
    · rw [show (i2 == 0) = false from beq_eq_false_iff_ne.mpr c1]
      refine iteF ?_
      refine ⟨_, rfl, d, _, 2, _, rfl, rfl, SqL.of upd_same, rfl, _, _, rfl, rfl, _, rfl, ?_⟩
      by_cases pos : (0 : Int) < i2
      · rw [decide_eq_true pos]
        refine iteT ?_
        refine ⟨_, rfl, d, _, 2, _, rfl, rfl, SqL.of upd_same, rfl, .inl ⟨_, rfl, _, rfl, _, _, rfl, rfl, mp, ?_⟩⟩
        refine ⟨_, rfl, d, _, 2, _, rfl, rfl, SqL.of upd_same, rfl, .inl ⟨_, rfl, _, rfl, _, _, rfl, rfl, ⟨mp, mq⟩, ?_⟩⟩
        refine ⟨_, rfl, d, _, 2, 2, rfl, rfl, upd_same, rfl, ?_⟩
        rw [pset2]
        refine ⟨_, rfl, ?_⟩
        exact fin _ _ _ _ hi _ _ rfl
      · rw [decide_eq_false pos]
        refine iteF ?_
        refine ⟨_, rfl, d, _, 4, _, rfl, rfl, SqL.of upd_same, rfl, _, _, rfl, rfl, _, rfl, d, _, 4, 4, rfl, rfl, upd_same, rfl, ?_⟩
        rw [pset4]
        refine ⟨_, rfl, d, _, 3, _, rfl, rfl, SqL.of upd_same, rfl, _, _, rfl, rfl, .inr ⟨by decide, by decide⟩, _, rfl, d, _, 4, _, rfl, rfl, SqL.of upd_same, rfl, _, _, rfl, rfl, .inl ⟨by decide, by decide⟩, _, _, rfl, rfl, _, _, rfl, rfl, .inl ⟨_, rfl, _, _, rfl, rfl, (show (0 : Int) < 2147483399 by decide), _, rfl, d, _, 3, 3, rfl, rfl, upd_same, rfl, ?_⟩⟩
        rw [pset3]
        refine ⟨_, rfl, d, _, 3, _, rfl, rfl, SqL.of upd_same, rfl, _, rfl, d, _, 3, _, rfl, rfl, SqL.of upd_same, rfl, _, _, rfl, rfl, ⟨by decide, by decide⟩, _, _, rfl, rfl, _, _, rfl, rfl, .inl (modB (by decide) (by decide)), .inl ⟨_, rfl, _, _, rfl, rfl, (show (0 : Int) < 2147483647 by decide), ?_⟩⟩
        refine ⟨_, rfl, _, rfl, _, _, rfl, rfl, ⟨by decide, by decide⟩, _, _, rfl, rfl, _, _, rfl, rfl, .inl (modB (by decide) (by decide)), .inl ⟨_, rfl, _, _, rfl, rfl, (show (0 : Int) < 2147483629 by decide), ?_⟩⟩
        refine ⟨_, rfl, _, _, rfl, rfl, ⟨by decide, by decide⟩, .inl ⟨_, rfl, _, rfl, _, _, rfl, rfl, mp, ?_⟩⟩
        exact fin _ _ _ _ hi _ _ rfl
end
end UC
set_option Elab.async false
set_option linter.all false
set_option maxRecDepth 100000
set_option maxHeartbeats 8000000
/-! The law's small helpers. -/
namespace UC
open PySem PySem.Spec PyProof.Rows L2
section
variable {P : Program} {w : World} {K : PySem.W.Frag} {mg : Str → Option Value} {base : Heap}
def sp_law_any : Sp := fun vs H Q _ => ∃ (d g : Addr) (xs : List V), vs = [.ref d, .ref g] ∧ PoolAt H d ∧ H g = some (.lst xs) ∧ 1 ≤ xs.length ∧ xs.length ≤ 1000 ∧ ∀ x ∈ xs, Q x H
theorem sc_law_any : FnScope ["_law_pool_here", "_law_goods"] ["_law_pool_here", "_law_goods"] (defScope s_law_any) := ⟨rfl, rfl, rfl, by decide +kernel, rfl, by decide +kernel, by decide +kernel⟩
theorem ok_law_any (T : Txt K mg) : Pr P w K mg base 2 "_law_any" ["_law_pool_here", "_law_goods"] sp_law_any := by
  have G_law_draw : Pr P w K mg base 1 "_law_draw" _ _ := ok_law_draw T
  refine T.d_law_any.pr sc_law_any (fun vs H Q E h => ?_) (fun _ _ _ _ _ _ us hl => match us, hl with | [_, _], _ => rfl) (fun f cdv A outer s H vs Q E hr h => ?_)
  · obtain ⟨d, g, xs, rfl, _⟩ := h
    rfl
  · obtain ⟨d, g, xs, rfl, hp, hg, l1, l2, k⟩ := h
    refine ⟨_, (pss_one (ps_ret (pe_ix ix_list (pv 1) (pe_callP G_law_draw hr (by decide) (pa_cons (pv 0) (pa_cons (pe_callB call_len rfl T.b_len (by decide +kernel) (pa_cons (pv 1) pa_nil)) pa_nil))) (fun _ _ => rfl)))), ?_⟩
    simp only [st_c, st_n, st_0]
    refine ⟨_, rfl, _, rfl, _, rfl, _, xs.length, rfl, .inl ⟨_, SqL.of hg, rfl⟩, d, xs.length, rfl, hp, l1, l2, fun r hr2 => ?_⟩
    exact ⟨g, xs, (r : Int), xs[r], rfl, rfl, SqL.of hg, atI_nat (List.getElem?_eq_getElem hr2), k _ (List.getElem_mem hr2)⟩
def sp_law_is_int : Sp := fun vs H Q _ => ∃ i lo hi : Int, vs = [.int i, .int lo, .int hi] ∧ Q (.bl (decide (lo ≤ i ∧ i ≤ hi))) H
theorem sc_law_is_int : FnScope ["_law_thing", "_law_least", "_law_most"] ["_law_thing", "_law_least", "_law_most"] (defScope s_law_is_int) := ⟨rfl, rfl, rfl, by decide +kernel, rfl, by decide +kernel, by decide +kernel⟩
theorem ok_law_is_int (T : Txt K mg) : Pr P w K mg base 1 "_law_is_int" ["_law_thing", "_law_least", "_law_most"] sp_law_is_int := by
  refine T.d_law_is_int.pr sc_law_is_int (fun vs H Q E h => ?_) (fun _ _ _ _ _ _ us hl => match us, hl with | [_, _, _], _ => rfl) (fun f cdv A outer s H vs Q E hr h => ?_)
  · obtain ⟨i, lo, hi, rfl, _⟩ := h
    rfl
  · obtain ⟨i, lo, hi, rfl, k⟩ := h
    refine ⟨_, (pss_one (ps_ret (pe_and (pe_callB call_isi rfl T.b_isinstance (by decide +kernel) (pa_cons (pv 0) (pa_cons (pe_bltn (v := .ty "int") (by rfl) T.b_int (by decide +kernel) rfl) pa_nil))) (pe_and (pe_not (pe_callB call_isi rfl T.b_isinstance (by decide +kernel) (pa_cons (pv 0) (pa_cons (pe_bltn (v := .ty "bool") (by rfl) T.b_bool (by decide +kernel) rfl) pa_nil)))) (pe_one (pe_chain op_le op_le (pv 1) (pv 0) (pv 2))))))), ?_⟩
    simp only [st_c, st_n, st_0]
    refine ⟨_, rfl, _, _, _, _, true, rfl, .ty _, .base (.int i), kit_ty (by decide +kernel), true, rfl, iteT ?_⟩
    refine ⟨_, rfl, _, _, _, _, false, rfl, .ty _, .base (.int i), kit_ty (by decide +kernel), ?_⟩
    refine ⟨false, rfl, true, rfl, iteT ⟨_, rfl, _, rfl, _, _, rfl, rfl, _, rfl, ?_⟩⟩
    by_cases h1 : lo ≤ i
    · rw [decide_eq_true h1]
      refine iteT ⟨_, rfl, _, _, rfl, rfl, ?_⟩
      have e : decide (lo ≤ i ∧ i ≤ hi) = decide (i ≤ hi) := by simp [h1]
      exact qb k e
    · rw [decide_eq_false h1]
      have e : decide (lo ≤ i ∧ i ≤ hi) = false := by simp [h1]
      rw [e] at k
      exact iteF k
def sp_law_deep : Sp := fun vs H Q _ => ∃ (a : Addr) (xs : List V) (n : Nat), vs = [.ref a, nV n] ∧ H a = some (.tup xs) ∧ n ≤ 1000 ∧ ∀ (H' : Hp) (p : Addr) (ys : List V), Same H H' → H' p = some (.tup ys) → Q (.ref p) H'
theorem sc_law_deep : FnScope ["_law_thing", "_law_many", "_law_turn"] ["_law_thing", "_law_many"] (defScope s_law_deep) := ⟨rfl, rfl, rfl, by decide +kernel, rfl, by decide +kernel, by decide +kernel⟩
theorem ok_law_deep (T : Txt K mg) : Pr P w K mg base 1 "_law_deep" ["_law_thing", "_law_many"] sp_law_deep := by
  refine T.d_law_deep.pr sc_law_deep (fun vs H Q E h => ?_) (fun _ _ _ _ _ _ us hl => match us, hl with | [_, _], _ => rfl) (fun f cdv A outer s H vs Q E hr h => ?_)
  · obtain ⟨a, xs, n, rfl, _⟩ := h
    rfl
  · obtain ⟨a, xs, n, rfl, ha, hn, k⟩ := h
    refine ⟨_, (pss_cons (ps_for PassesOwn.never rfl (pi_range1 rfl T.b_range (pa_cons (pv 1) pa_nil)) (pg_n 2 sc_law_deep.nd)
      (pss_one (ps_s 0 sc_law_deep.nd (pe_tup (pa_cons (pv 0) pa_nil)))))
    (pss_one (ps_ret (pv 0)))), ?_⟩
    simp only [st_c, st_n, st_0]
    refine ⟨_, rfl, _, rfl, by omega, by omega, ?_⟩
    refine for_range (lo := 0) (n := n) (fun i σ H' => ∃ p ys v2, σ = [some (.ref p), some (nV n), v2] ∧ Same H H' ∧ H' p = some (.tup ys)) ⟨a, xs, _, rfl, Same.refl _, ha⟩ ?_ ?_
    · rintro i σ H' hi ⟨p, ys, v2, rfl, s1, hp⟩
      exact ⟨_, rfl, Nat.le_of_ble_eq_true rfl, fun q hq => ⟨q, _, _, rfl, s1.trans (same_upd hq), upd_same⟩⟩
    · rintro σ H' ⟨p, ys, v2, rfl, s1, hp⟩
      exact ⟨_, rfl, k H' p ys s1 hp⟩
def sp_law_flag : Sp := fun vs H Q _ => ∃ a b : Bool, vs = [.bl a, .bl b] ∧ Q (.bl (decide (a = b))) H
theorem sc_law_flag : FnScope ["_law_told", "_law_due"] ["_law_told", "_law_due"] (defScope s_law_flag) := ⟨rfl, rfl, rfl, by decide +kernel, rfl, by decide +kernel, by decide +kernel⟩
theorem ok_law_flag (T : Txt K mg) : Pr P w K mg base 1 "_law_flag" ["_law_told", "_law_due"] sp_law_flag := by
  refine T.d_law_flag.pr sc_law_flag (fun vs H Q E h => ?_) (fun _ _ _ _ _ _ us hl => match us, hl with | [_, _], _ => rfl) (fun f cdv A outer s H vs Q E hr h => ?_)
  · obtain ⟨a, b, rfl, _⟩ := h
    rfl
  · obtain ⟨a, b, rfl, k⟩ := h
    refine ⟨_, (pss_one (ps_ret (pe_and (pe_callB call_isi rfl T.b_isinstance (by decide +kernel) (pa_cons (pv 0) (pa_cons (pe_bltn (v := .ty "bool") (by rfl) T.b_bool (by decide +kernel) rfl) pa_nil))) (pe_one (pe_cmpR op_eq (pv 0) (pv 1) (nomark _)))))), ?_⟩
    simp only [st_c, st_n, st_0]
    refine ⟨_, rfl, _, _, _, _, true, rfl, .ty _, .base (.bl a), kit_ty (by decide +kernel), true, rfl, iteT ?_⟩
    refine ⟨_, rfl, _, rfl, rfl, qb k ?_⟩
    cases a <;> cases b <;> rfl
/-! something odd: no house -/
def NoHouse (K : PySem.W.Frag) (H : Hp) (v : V) : Prop := ∃ t, TyX K H v t ∧ PySem.W.kitOne K t (.ref (He.ga K "House")) = some false ∧ ∀ H', Same H H' → TyX K H' v t
theorem NoHouse.same {H H' : Hp} {v : V} (e : Same H H') (h : NoHouse K H v) : NoHouse K H' v := by
  obtain ⟨t, a, b, c⟩ := h
  exact ⟨t, c H' e, b, fun H2 e2 => c H2 (e.trans e2)⟩
theorem NoHouse.non {H : Hp} (T : Txt K mg) : NoHouse K H .non := ⟨_, .base .non, T.h_NoneType, fun _ _ => .base .non⟩
theorem NoHouse.bl {H : Hp} (T : Txt K mg) (b : Bool) : NoHouse K H (.bl b) := ⟨_, .base (.bl b), T.h_bool, fun _ _ => .base (.bl b)⟩
theorem NoHouse.int {H : Hp} (T : Txt K mg) (b : Int) : NoHouse K H (.int b) := ⟨_, .base (.int b), T.h_int, fun _ _ => .base (.int b)⟩
theorem NoHouse.str {H : Hp} (T : Txt K mg) (b : Str) : NoHouse K H (.str b) := ⟨_, .base (.str b), T.h_str, fun _ _ => .base (.str b)⟩
theorem NoHouse.tup {H : Hp} {a : Addr} {xs : List V} (T : Txt K mg) (h : H a = some (.tup xs)) : NoHouse K H (.ref a) := ⟨_, .base (.tup h), T.h_tuple, fun _ e => .base (.tup (e _ _ h))⟩
theorem NoHouse.lst {H : Hp} {a : Addr} {xs : List V} (T : Txt K mg) (h : H a = some (.lst xs)) : NoHouse K H (.ref a) := ⟨_, .base (.lst h), T.h_list, fun _ e => .base (.lst (e _ _ h))⟩
theorem NoHouse.dct {H : Hp} {a : Addr} {xs : List (Key × V)} (T : Txt K mg) (h : H a = some (.dK xs)) : NoHouse K H (.ref a) := ⟨_, .base (.dK h), T.h_dict, fun _ e => .base (.dK (e _ _ h))⟩
theorem NoHouse.book {H : Hp} {a dx : Addr} {fs : List (Str × V)} (T : Txt K mg) (h : H a = some (.ins (He.ga K "Book") dx fs)) : NoHouse K H (.ref a) := ⟨_, T.o_Book.ty h, T.h_Book, fun _ e => T.o_Book.ty (e _ _ h)⟩
def sp_law_odd (K : PySem.W.Frag) : Sp := fun vs H Q _ => ∃ (d p lp : Addr) (ts : List (Str × Kd)), vs = [.ref d, .ref p] ∧ PoolAt H d ∧ BookAt K H p lp ts ∧ ∀ (H' : Hp) (v : V), Same H H' → NoHouse K H' v → Q v H'
theorem sc_law_odd : FnScope ["_law_pool_here", "_law_other", "_law_odd_here"] ["_law_pool_here", "_law_other"] (defScope s_law_odd) := ⟨rfl, rfl, rfl, by decide +kernel, rfl, by decide +kernel, by decide +kernel⟩
theorem ok_law_odd (T : Txt K mg) : Pr P w K mg base 2 "_law_odd" ["_law_pool_here", "_law_other"] (sp_law_odd K) := by
  have G_law_draw : Pr P w K mg base 1 "_law_draw" _ _ := ok_law_draw T
  have G_law_deep : Pr P w K mg base 1 "_law_deep" _ _ := ok_law_deep T
  refine T.d_law_odd.pr sc_law_odd (fun vs H Q E h => ?_) (fun _ _ _ _ _ _ us hl => match us, hl with | [_, _], _ => rfl) (fun f cdv A outer s H vs Q E hr h => ?_)
  · obtain ⟨d, p, lp, ts, rfl, _⟩ := h
    rfl
  · obtain ⟨d, p, lp, ts, rfl, hp, hB, k⟩ := h
    obtain ⟨dx, ta, b1, _⟩ := hB.ex
    refine ⟨_, (pss_cons (ps_s 2 sc_law_odd.nd (pe_lst (pa_cons pe_non (pa_cons pe_bl (pa_cons pe_bl (pa_cons (pe_un un_neg pe_int) (pa_cons pe_int (pa_cons pe_int (pa_cons pe_int (pa_cons pe_str (pa_cons pe_str (pa_cons (pe_tup (pa_cons pe_int pa_nil)) (pa_cons (pe_tup pa_nil) (pa_cons (pe_lst (pa_cons pe_int pa_nil)) (pa_cons (pe_op op_pow pe_int pe_int) (pa_cons pe_dnewK (pa_cons (pv 1) (pa_cons (pe_tup (pa_cons pe_int (pa_cons (pe_tup (pa_cons pe_int (pa_cons pe_int pa_nil))) pa_nil))) (pa_cons (pe_tup (pa_cons pe_str (pa_cons pe_int pa_nil))) pa_nil)))))))))))))))))))
    (pss_one (ps_ret (pe_ix ix_list (pe_op op_cat (pv 2) (pe_lst (pa_cons (pe_callP G_law_deep hr (by decide) (pa_cons (pe_tup pa_nil) (pa_cons (pe_op op_add pe_int (pe_callP G_law_draw hr (by decide) (pa_cons (pv 0) (pa_cons pe_int pa_nil)))) pa_nil))) pa_nil))) (pe_callP G_law_draw hr (by decide) (pa_cons (pv 0) (pa_cons pe_int pa_nil))) (fun _ _ => rfl))))), ?_⟩
    simp only [st_c, st_n, st_0]
    refine ⟨1, rfl, Nat.le_of_ble_eq_true rfl, fun t1 h1 => ⟨Nat.zero_le _, fun t2 h2 => ⟨Nat.le_of_ble_eq_true rfl, fun l3 h3 => ⟨_, _, rfl, rfl, ⟨by decide, by decide, by decide⟩, fun d4 h4 => ⟨_, rfl, Nat.le_of_ble_eq_true rfl, fun t5 h5 => ⟨Nat.le_of_ble_eq_true rfl, fun t6 h6 => ⟨Nat.le_of_ble_eq_true rfl, fun t7 h7 => ⟨Nat.le_of_ble_eq_true rfl, fun l8 h8 => ?_⟩⟩⟩⟩⟩⟩⟩⟩
    have a1 := same_upd (o := .tup [.int 0]) h1
    have a2 := same_upd (o := .tup []) h2
    have a3 := same_upd (o := .lst [.int 0]) h3
    have a4 := same_upd (o := .dK []) h4
    have a5 := same_upd (o := .tup [.int 0, .int 1]) h5
    have a6 := same_upd (o := .tup [.int 0, .ref t5]) h6
    have a7 := same_upd (o := .tup [.str "a", .int 0]) h7
    have a8 := same_upd (o := .lst [.non, .bl true, .bl false, .int (-1), .int 0, .int 1, .int 26, .str "a", .str "use", .ref t1, .ref t2, .ref l3, .int ((10 : Int) ^ (29 : Int).toNat), .ref d4, .ref p, .ref t6, .ref t7]) h8
    have s8 := ((((((a1.trans a2).trans a3).trans a4).trans a5).trans a6).trans a7).trans a8
    have n7 : NoHouse K _ (.ref t7) := (NoHouse.tup T (upd_same (a := t7) (o := .tup [.str "a", .int 0]))).same a8
    have n6 : NoHouse K _ (.ref t6) := (NoHouse.tup T (upd_same (a := t6) (o := .tup [.int 0, .ref t5]))).same (a7.trans a8)
    have n4 : NoHouse K _ (.ref d4) := (NoHouse.dct T (upd_same (a := d4) (o := .dK []))).same (((a5.trans a6).trans a7).trans a8)
    have n3 : NoHouse K _ (.ref l3) := (NoHouse.lst T (upd_same (a := l3) (o := .lst [.int 0]))).same ((((a4.trans a5).trans a6).trans a7).trans a8)
    have n2 : NoHouse K _ (.ref t2) := (NoHouse.tup T (upd_same (a := t2) (o := .tup []))).same (((((a3.trans a4).trans a5).trans a6).trans a7).trans a8)
    have n1 : NoHouse K _ (.ref t1) := (NoHouse.tup T (upd_same (a := t1) (o := .tup [.int 0]))).same ((((((a2.trans a3).trans a4).trans a5).trans a6).trans a7).trans a8)
    have nb : NoHouse K _ (.ref p) := (NoHouse.book T b1).same s8
    refine ⟨_, rfl, Nat.zero_le _, fun t9 h9 => ⟨_, rfl, d, 30, rfl, (hp.same s8).same (same_upd h9), by decide, by decide, fun r hr2 => ⟨_, _, rfl, rfl, t9, [], 1 + r, rfl, upd_same, by omega, fun H2 p2 ys s2 hp2 => ⟨Nat.le_of_ble_eq_true rfl, fun l10 h10 => ?_⟩⟩⟩⟩
    have a9 := (same_upd (o := .tup []) h9).trans s2
    have a10 := same_upd (o := .lst [.ref p2]) h10
    have a910 := a9.trans a10
    refine ⟨l8, l10, _, _, rfl, rfl, a910 _ _ upd_same, upd_same, Nat.le_of_ble_eq_true rfl, fun l11 h11 => ?_⟩
    have a11b := same_upd (o := .lst ([V.non, .bl true, .bl false, .int (-1), .int 0, .int 1, .int 26, .str "a", .str "use", .ref t1, .ref t2, .ref l3, .int ((10 : Int) ^ (29 : Int).toNat), .ref d4, .ref p, .ref t6, .ref t7] ++ [.ref p2])) h11
    have a11 := a910.trans a11b
    have s11 := s8.trans a11
    refine ⟨_, rfl, d, 18, rfl, hp.same s11, by decide, by decide, fun r3 hr3 => ?_⟩
    have nn : ∀ x ∈ [V.non, .bl true, .bl false, .int (-1), .int 0, .int 1, .int 26, .str "a", .str "use", .ref t1, .ref t2, .ref l3, .int ((10 : Int) ^ (29 : Int).toNat), .ref d4, .ref p, .ref t6, .ref t7] ++ [.ref p2], NoHouse K _ x := fun x hx => by
      rcases List.mem_append.mp hx with q | q
      · refine NoHouse.same a11 ?_
        simp only [List.mem_cons, List.not_mem_nil, or_false] at q
        rcases q with rfl | rfl | rfl | rfl | rfl | rfl | rfl | rfl | rfl | rfl | rfl | rfl | rfl | rfl | rfl | rfl | rfl
        · exact .non T
        · exact .bl T _
        · exact .bl T _
        · exact .int T _
        · exact .int T _
        · exact .int T _
        · exact .int T _
        · exact .str T _
        · exact .str T _
        · exact n1
        · exact n2
        · exact n3
        · exact .int T _
        · exact n4
        · exact nb
        · exact n6
        · exact n7
      · rw [List.mem_singleton.mp q]
        exact (NoHouse.tup T hp2).same (a10.trans a11b)
    have lt : r3 < ([V.non, .bl true, .bl false, .int (-1), .int 0, .int 1, .int 26, .str "a", .str "use", .ref t1, .ref t2, .ref l3, .int ((10 : Int) ^ (29 : Int).toNat), .ref d4, .ref p, .ref t6, .ref t7] ++ [V.ref p2]).length := hr3
    exact ⟨l11, _, (r3 : Int), _, rfl, rfl, SqL.of upd_same, atI_nat (List.getElem?_eq_getElem lt), k _ _ s11 (nn _ (List.getElem_mem lt))⟩
/-! a lot's spec -/
structure SpecOk (z : Str) (ms : List Nat) : Prop where
  ok : LotOk z ms
  len : ms.length ≤ 3
  le : ∀ m ∈ ms, m ≤ 4
def SpecAt (H : Hp) (p : Addr) (z : Str) (ms : List Nat) : Prop := ∃ mk, H p = some (.tup [.str z, .ref mk]) ∧ H mk = some (.tup (ms.map nV))
theorem SpecAt.same {H H' : Hp} {p : Addr} {z : Str} {ms : List Nat} (e : Same H H') (h : SpecAt H p z ms) : SpecAt H' p z ms := by
  obtain ⟨mk, a, b⟩ := h
  exact ⟨mk, e _ _ a, e _ _ b⟩
def sp_law_spec : Sp := fun vs H Q _ => ∃ d : Addr, vs = [.ref d, .int 4] ∧ PoolAt H d ∧ ∀ (H' : Hp) (p : Addr) (z : Str) (ms : List Nat), Same H H' → SpecAt H' p z ms → SpecOk z ms → Q (.ref p) H'
theorem sc_law_spec : FnScope ["_law_pool_here", "_law_most", "_law_word", "_law_turn"] ["_law_pool_here", "_law_most"] (defScope s_law_spec) := ⟨rfl, rfl, rfl, by decide +kernel, rfl, by decide +kernel, by decide +kernel⟩
theorem ok_law_spec (T : Txt K mg) : Pr P w K mg base 3 "_law_spec" ["_law_pool_here", "_law_most"] sp_law_spec := by
  have G_law_draw : Pr P w K mg base 1 "_law_draw" _ _ := ok_law_draw T
  have G_law_any : Pr P w K mg base 2 "_law_any" _ _ := ok_law_any T
  refine T.d_law_spec.pr sc_law_spec (fun vs H Q E h => ?_) (fun _ _ _ _ _ _ us hl => match us, hl with | [_, _], _ => rfl) (fun f cdv A outer s H vs Q E hr h => ?_)
  · obtain ⟨d, rfl, _⟩ := h
    rfl
  · obtain ⟨d, rfl, hp, k⟩ := h
    refine ⟨_, (pss_cons (ps_s 2 sc_law_spec.nd (pe_callP G_law_any hr (by decide) (pa_cons (pv 0) (pa_cons (pe_lst (pa_cons pe_str (pa_cons pe_str (pa_cons pe_str (pa_cons pe_str (pa_cons pe_str (pa_cons pe_str pa_nil))))))) pa_nil))))
    (pss_cons (ps_if (pt_cmpR op_ne (pv 2) pe_str (nomark _))
      (pss_one (ps_ret (pe_tup (pa_cons (pv 2) (pa_cons (pe_tup pa_nil) pa_nil)))))
      pss_nil)
    (pss_one (ps_ret (pe_tup (pa_cons (pv 2) (pa_cons (pe_callTy call_tuple_of rfl T.b_tuple (by decide +kernel) (pa_cons (pe_lc (own := [("_law_turn", 3)]) (g := gName 3) (tt := tYes) rfl sc_law_spec.nd (pi_range1 rfl T.b_range (pa_cons (pe_op op_add pe_int (pe_callP G_law_draw hr (by decide) (pa_cons (pv 0) (pa_cons pe_int pa_nil)))) pa_nil)) (blkOk_by (N := ["_law_pool_here", "_law_most", "_law_word", "_law_turn"]) (sc := defScope s_law_spec) (by decide +kernel)) (fun _ _ _ _ _ => (pg_n 3 sc_law_spec.nd)) (fun _ _ _ _ _ => pts_nil) (fun _ _ _ _ _ => (pe_op op_add pe_int (pe_callP G_law_draw hr (by decide) (pa_cons (pv 0) (pa_cons (pv 1) pa_nil)))))) pa_nil)) pa_nil))))))), ?_⟩
    simp only [st_c, st_n, st_0]
    refine ⟨_, rfl, Nat.le_of_ble_eq_true rfl, fun l1 h1 => ?_⟩
    have a1 := same_upd (o := .lst [.str "once", .str "loan", .str "free", .str "more", .str "more", .str "more"]) h1
    refine ⟨d, l1, _, rfl, hp.same a1, upd_same, by decide, by decide, fun x hx => ?_⟩
    obtain ⟨z, rfl, hz⟩ : ∃ z : Str, x = .str z ∧ (z = "once" ∨ z = "loan" ∨ z = "free" ∨ z = "more") := by
      simp only [List.mem_cons, List.not_mem_nil, or_false] at hx
      rcases hx with rfl | rfl | rfl | rfl | rfl | rfl
      · exact ⟨_, rfl, .inl rfl⟩
      · exact ⟨_, rfl, .inr (.inl rfl)⟩
      · exact ⟨_, rfl, .inr (.inr (.inl rfl))⟩
      · exact ⟨_, rfl, .inr (.inr (.inr rfl))⟩
      · exact ⟨_, rfl, .inr (.inr (.inr rfl))⟩
      · exact ⟨_, rfl, .inr (.inr (.inr rfl))⟩
    refine ⟨_, rfl, rfl, _, rfl, ?_⟩
    rw [dec_str]
    by_cases z4 : z = "more"
    · rw [show (z == ("more" : Str)) = true from beq_iff_eq.mpr z4]
      refine iteF ?_
      refine ⟨_, rfl, _, rfl, d, 3, rfl, hp.same a1, by decide, by decide, fun r hr3 => ?_⟩
      refine ⟨_, _, rfl, rfl, _, rfl, by omega, by omega, fun D hD => ?_⟩
      have er : ((1 : Int) + (r : Int)).toNat = 1 + r := by omega
      rw [er]
      refine lc_range (lo := 0) (n := 1 + r) (LcP (upd H l1 (.lst [.str "once", .str "loan", .str "free", .str "more", .str "more", .str "more"])) D (fun i acc _ => ∃ ms : List Nat, acc = ms.map nV ∧ ms.length = i ∧ ∀ m ∈ ms, 1 ≤ m ∧ m ≤ 4)) (LcP.zero hD ⟨[], rfl, rfl, fun m h => (List.not_mem_nil h).elim⟩) ?_ fun H2 h2 => ?_
      · rintro i H2 hi ⟨acc, s1, hda, hle, ms, rfl, hl, hb⟩
        refine ⟨rfl, tyes ?_⟩
        refine ⟨_, rfl, _, rfl, d, 4, rfl, (hp.same a1).same s1, by decide, by decide, fun r2 hr2 => ⟨_, _, rfl, rfl, ?_⟩⟩
        refine LcP.put hD s1 hda hle (Nat.lt_of_lt_of_le hi (Nat.le_trans (show 1 + r ≤ 4 by omega) (by decide))) (Same.refl _) ⟨ms ++ [1 + r2], ?_, by rw [List.length_append, hl]; rfl, fun m hm => ?_⟩
        · rw [List.map_append]
          rfl
        · rcases List.mem_append.mp hm with q | q
          · exact hb m q
          · rw [List.mem_singleton.mp q]
            omega
      obtain ⟨acc, s2, hda, _, ms, rfl, hl, hb⟩ := h2
      refine ⟨D, _, rfl, .inl ⟨SqL.of hda, fun t1 ht1 => ?_⟩⟩
      refine ⟨Nat.le_of_ble_eq_true rfl, fun t2 ht2 => ?_⟩
      have b1 := same_upd (o := .tup (ms.map nV)) ht1
      have b2 := same_upd (o := .tup [.str z, .ref t1]) ht2
      exact k _ t2 z ms ((a1.trans s2).trans (b1.trans b2)) ⟨t1, upd_same, b2 _ _ upd_same⟩ ⟨⟨hz, by omega, fun m hm => ⟨(hb m hm).1, Nat.le_trans (hb m hm).2 (by decide)⟩, ⟨fun _ => z4, fun _ e => by rw [e] at hl; simp at hl; omega⟩⟩, by omega, fun m hm => (hb m hm).2⟩
    · rw [show (z == ("more" : Str)) = false from beq_eq_false_iff_ne.mpr z4]
      refine iteT ?_
      refine ⟨_, rfl, Nat.zero_le _, fun t1 ht1 => ⟨Nat.le_of_ble_eq_true rfl, fun t2 ht2 => ?_⟩⟩
      have b1 := same_upd (o := .tup []) ht1
      have b2 := same_upd (o := .tup [.str z, .ref t1]) ht2
      exact k _ t2 z [] (a1.trans (b1.trans b2)) ⟨t1, upd_same, b2 _ _ upd_same⟩ ⟨⟨hz, Nat.zero_le _, fun m hm => (List.not_mem_nil hm).elim, ⟨fun q => absurd rfl q, fun e => absurd e z4⟩⟩, Nat.zero_le _, fun m hm => (List.not_mem_nil hm).elim⟩
/-! a kind, drawn -/
def sp_law_kind (N : Nat) : Sp := fun vs H Q _ => ∃ (d : Addr) (m l : Nat), vs = [.ref d, nV m, nV l] ∧ PoolAt H d ∧ 1 ≤ m ∧ m ≤ N ∧ 1 ≤ l ∧ l ≤ 26 ∧ ∀ (H' : Hp) (v : V) (k : Kd), Same H H' → KdAt H' k v → k.size ≤ m → k.lets l → Q v H'
theorem sc_law_kind : FnScope ["_law_pool_here", "_law_most", "_law_letters_here", "_law_ahead"] ["_law_pool_here", "_law_most", "_law_letters_here"] (defScope s_law_kind) := ⟨rfl, rfl, rfl, by decide +kernel, rfl, by decide +kernel, by decide +kernel⟩
theorem ok_law_kind (T : Txt K mg) : ∀ N : Nat, N ≤ 20 → Pr P w K mg base (N + 2) "_law_kind" ["_law_pool_here", "_law_most", "_law_letters_here"] (sp_law_kind N)
  | 0, _ => by
    refine T.d_law_kind.pr sc_law_kind (fun vs H Q E h => ?_) (fun _ _ _ _ _ _ us hl => match us, hl with | [_, _, _], _ => rfl) (fun f cdv A outer s H vs Q E hr h => ?_)
    · obtain ⟨d, m, l, rfl, _⟩ := h
      rfl
    · obtain ⟨d, m, l, rfl, hp, m1, m2, _⟩ := h
      exact absurd m1 (by omega)
  | N + 1, hN => by
    have G_law_draw : Pr P w K mg base 1 "_law_draw" _ _ := ok_law_draw T
    have G_law_kind : Pr P w K mg base (N + 2) "_law_kind" _ _ := ok_law_kind T N (by omega)
    refine T.d_law_kind.pr sc_law_kind (fun vs H Q E h => ?_) (fun _ _ _ _ _ _ us hl => match us, hl with | [_, _, _], _ => rfl) (fun f cdv A outer s H vs Q E hr h => ?_)
    · obtain ⟨d, m, l, rfl, _⟩ := h
      rfl
    · obtain ⟨d, m, l, rfl, hp, m1, m2, l1, l2, k⟩ := h
      have lv : 1 ≤ N + 2 := by omega
      have lw : N + 2 ≤ N + 2 := Nat.le_refl _
      refine ⟨_, (pss_cons (ps_if (PW.pt (pw_or (pt_cmpR op_lt (pv 1) pe_int (nomark _)) (pw_or1 (pt_cmpR op_eq (pe_callP G_law_draw hr (by omega) (pa_cons (pv 0) (pa_cons pe_int pa_nil))) pe_int (nomark _)))))
      (pss_one (ps_ret (pe_callP G_law_draw hr (by omega) (pa_cons (pv 0) (pa_cons (pv 2) pa_nil)))))
      pss_nil)
    (pss_cons (ps_s 3 sc_law_kind.nd (pe_op op_add pe_int (pe_callP G_law_draw hr (by omega) (pa_cons (pv 0) (pa_cons (pe_op op_sub (pv 1) pe_int) pa_nil)))))
    (pss_one (ps_ret (pe_tup (pa_cons (pe_callP G_law_kind hr (by omega) (pa_cons (pv 0) (pa_cons (pv 3) (pa_cons (pv 2) pa_nil)))) (pa_cons (pe_callP G_law_kind hr (by omega) (pa_cons (pv 0) (pa_cons (pe_op op_sub (pv 1) (pv 3)) (pa_cons (pv 2) pa_nil)))) pa_nil))))))), ?_⟩
      simp only [st_c, st_n, st_0]
      have letter : tRet (tCall sp_law_draw [] E0 (tCons (tVar 0) (tCons (tVar 2) tNil))) { nx := fun _ H' => Q .non H', rt := Q } (start ["_law_pool_here", "_law_most", "_law_letters_here", "_law_ahead"] [.ref d, nV m, nV l]) H :=
        ⟨_, rfl, _, rfl, d, l, rfl, hp, l1, by omega, fun r hr2 => k H (nV r) (.lt r) (Same.refl _) rfl m1 hr2⟩
      refine ⟨_, rfl, _, _, rfl, rfl, _, rfl, ?_⟩
      by_cases c1 : (m : Int) < 2
      · rw [decide_eq_true c1]
        exact iteT letter
      rw [decide_eq_false c1]
      refine iteF ⟨_, rfl, d, 4, rfl, hp, by decide, by decide, fun r hr4 => ⟨rfl, _, rfl, ?_⟩⟩
      rw [dec_int]
      by_cases c2 : (r : Int) = 0
      · rw [show ((r : Int) == 0) = true from beq_iff_eq.mpr c2]
        exact iteT letter
      rw [show ((r : Int) == 0) = false from beq_eq_false_iff_ne.mpr c2]
      refine iteF ?_
      have e1 : ((m : Int) - 1) = ((m - 1 : Nat) : Int) := by omega
      refine ⟨_, rfl, _, rfl, _, _, rfl, rfl, d, m - 1, congrArg (fun z => [V.ref d, V.int z]) e1, hp, by omega, by omega, fun r2 hr5 => ⟨_, _, rfl, rfl, ?_⟩⟩
      refine ⟨_, rfl, _, rfl, _, rfl, d, 1 + r2, l, rfl, hp, by omega, by omega, l1, l2, fun H1 v1 k1 s1 hk1 z1 lt1 => ?_⟩
      have e2 : ((m : Int) - (1 + (r2 : Int))) = ((m - (1 + r2) : Nat) : Int) := by omega
      refine ⟨_, rfl, _, rfl, _, rfl, _, _, rfl, rfl, _, rfl, d, m - (1 + r2), l, congrArg (fun z => [V.ref d, V.int z, nV l]) e2, hp.same s1, by omega, by omega, l1, l2, fun H2 v2 k2 s2 hk2 z2 lt2 => ?_⟩
      refine ⟨Nat.le_of_ble_eq_true rfl, fun p hpn => ?_⟩
      have t3 := same_upd (o := .tup [v1, v2]) hpn
      refine k _ (.ref p) (.ar k1 k2) ((s1.trans s2).trans t3) ⟨p, v1, v2, rfl, upd_same, hk1.same (s2.trans t3), hk2.same t3⟩ ?_ ⟨lt1, lt2⟩
      show k1.size + k2.size ≤ m
      omega
end
end UC
set_option Elab.async false
set_option linter.all false
set_option maxRecDepth 100000
set_option maxHeartbeats 8000000
/-! The law's numbers. -/
namespace UC
open PySem PySem.Spec PyProof.Rows L2
theorem kd_int (ks : List Nat) (i : Int) : (valV (kd ks) (Sum.inl i)).isSome = decide (0 ≤ i ∧ i.toNat ∈ ks) := by
  by_cases h : 0 ≤ i
  · have e : (Sum.inl i : Key) = kn i.toNat := by
      show (Sum.inl i : Key) = Sum.inl ((i.toNat : Nat) : Int)
      rw [Int.toNat_of_nonneg h]
    rw [e, kd_some]
    simp [h]
  · have e : ∀ ks : List Nat, valV (kd ks) (Sum.inl i) = none := fun ks => by
      induction ks with
      | nil => rfl
      | cons k ks ih =>
        show valV ((kn k, V.bl true) :: kd ks) (Sum.inl i) = none
        rw [valV_neg (fun z => by injection z with z; omega), ih]
    rw [e]
    simp [h]
/-- a comprehension of flags -/
theorem finMap {K : PySem.W.Frag} {α : Type} {H H1 : Hp} {D : Addr} {f : α → Bool} {ms : List α} {n : Nat} (en : n = ms.length) (h : LcP H D (fun i acc _ => acc = (ms.take i).map (fun m => V.bl (f m))) n H1) : SqL K H1 D ((ms.map f).map V.bl) ∧ Same H H1 := by
  obtain ⟨acc, s1, hd, _, e⟩ := h
  rw [en, List.take_length] at e
  refine ⟨?_, s1⟩
  rw [List.map_map]
  have e2 : acc = ms.map (V.bl ∘ f) := e
  rw [← e2]
  exact SqL.of hd
theorem any_map {α : Type} (f : α → Bool) (ms : List α) : (ms.map f).any id = ms.any f := by
  rw [List.any_map]
  rfl
theorem all_map {α : Type} (f : α → Bool) (ms : List α) : (ms.map f).all id = ms.all f := by
  rw [List.all_map]
  rfl
/-- the numbers that a lot allows, none too great -/
def Hn (z : Str) (ms : List Nat) (s : Nat) : Prop := (z = "once" ∧ s = 1) ∨ (z = "loan" ∧ (s = 0 ∨ s = 1)) ∨ z = "free" ∨ (z = "more" ∧ ∃ k, Sm ms k s)
structure NumsOk (z : Str) (ms L : List Nat) : Prop where
  ne : L ≠ []
  len : L.length ≤ 200
  le : ∀ s ∈ L, s ≤ 90
  all : ∀ s, s ≤ 90 → Hn z ms s → s ∈ L
theorem Sm.pos {ms : List Nat} {k s : Nat} (h : Sm ms k s) : 1 ≤ s := by
  induction h with
  | one => exact Nat.le_refl _
  | put _ _ ih => omega
theorem Sm.inv {ms : List Nat} {k n : Nat} (h : Sm ms k n) : n = 1 ∨ ∃ m k' s, m ∈ ms ∧ Sm ms k' s ∧ n = s + m := by
  cases h with
  | one => exact .inl rfl
  | put h t => exact .inr ⟨_, _, _, h, t, rfl⟩
section
variable {P : Program} {w : World} {K : PySem.W.Frag} {mg : Str → Option Value} {base : Heap}
def sp_law_numbers : Sp := fun vs H Q _ => ∃ (p : Addr) (z : Str) (ms : List Nat), vs = [.ref p, .int 90] ∧ SpecAt H p z ms ∧ SpecOk z ms ∧ ∀ (H' : Hp) (q : Addr) (L : List Nat), Same H H' → H' q = some (.lst (L.map nV)) → NumsOk z ms L → Q (.ref q) H'
theorem sc_law_numbers : FnScope ["_law_spec_here", "_law_most", "_law_sums", "_law_total", "_law_maker"] ["_law_spec_here", "_law_most"] (defScope s_law_numbers) := ⟨rfl, rfl, rfl, by decide +kernel, rfl, by decide +kernel, by decide +kernel⟩
theorem ok_law_numbers (T : Txt K mg) : Pr P w K mg base 1 "_law_numbers" ["_law_spec_here", "_law_most"] sp_law_numbers := by
  refine T.d_law_numbers.pr sc_law_numbers (fun vs H Q E h => ?_) (fun _ _ _ _ _ _ us hl => match us, hl with | [_, _], _ => rfl) (fun f cdv A outer s H vs Q E hr h => ?_)
  · obtain ⟨p, z, ms, rfl, _⟩ := h
    rfl
  · obtain ⟨p, z, ms, rfl, ⟨mk, hp, hm⟩, ok, k⟩ := h
    have hu := hu_of hr
    refine ⟨_, (pss_cons (ps_if (pt_cmpR op_eq (pe_ix ix_tup (pv 0) pe_int (fun _ _ => rfl)) pe_str (nomark _))
      (pss_one (ps_ret (pe_lst (pa_cons pe_int pa_nil))))
      pss_nil)
    (pss_cons (ps_if (pt_cmpR op_eq (pe_ix ix_tup (pv 0) pe_int (fun _ _ => rfl)) pe_str (nomark _))
      (pss_one (ps_ret (pe_lst (pa_cons pe_int (pa_cons pe_int pa_nil)))))
      pss_nil)
    (pss_cons (ps_if (pt_cmpR op_eq (pe_ix ix_tup (pv 0) pe_int (fun _ _ => rfl)) pe_str (nomark _))
      (pss_one (ps_ret (pe_listRg rfl rfl T.b_list (prg_1 rfl T.b_range (pe_op op_add (pv 1) pe_int)))))
      pss_nil)
    (pss_cons (ps_s 2 sc_law_numbers.nd (pe_disp (pps_cons pe_int pe_bl pps_nil) (by rfl) (by rfl) (fun z => by cases z) (by decide)))
    (pss_cons (ps_for PassesOwn.never rfl (pi_range2 rfl T.b_range (pa_cons pe_int (pa_cons (pv 1) pa_nil))) (pg_n 3 sc_law_numbers.nd)
      (pss_one (ps_if (pt_val (pe_callB (cr_any rfl) rfl T.b_any (by decide +kernel) (pa_cons (pe_lc (own := [("_law_maker", 4)]) (g := gName 4) (tt := tYes) rfl sc_law_numbers.nd (pi_tup (pe_ix ix_tup (pv 0) pe_int (fun _ _ => rfl))) (blkOk_by (N := ["_law_spec_here", "_law_most", "_law_sums", "_law_total", "_law_maker"]) (sc := defScope s_law_numbers) (by decide +kernel)) (fun _ _ _ _ _ => (pg_n 4 sc_law_numbers.nd)) (fun _ _ _ _ _ => pts_nil) (fun _ _ _ _ _ => (pe_cmp (pc_din hu (pe_op op_sub (pv 3) (pv 4)) (pv 2))))) pa_nil)))
        (pss_one (ps_dput hu (pv 2) (pv 3) pe_bl rfl))
        pss_nil)))
    (pss_one (ps_ret (pe_lc (own := [("_law_total", 3)]) (g := gName 3) (tt := tYes) rfl sc_law_numbers.nd (pi_list (pe_callB (cr_sortedDN rfl) rfl T.b_sorted (by decide +kernel) (pa_cons (pv 2) pa_nil))) (blkOk_by (N := ["_law_spec_here", "_law_most", "_law_sums", "_law_total", "_law_maker"]) (sc := defScope s_law_numbers) (by decide +kernel)) (fun _ _ _ _ _ => (pg_n 3 sc_law_numbers.nd)) (fun _ _ _ _ _ => pts_nil) (fun _ _ _ _ _ => (pe_op op_add (pv 3) pe_int)))))))))), ?_⟩
    simp only [st_c, st_n, st_0]
    refine ⟨_, rfl, _, _, _, _, rfl, rfl, SqT.of hp, rfl, rfl, _, rfl, ?_⟩
    rw [dec_str]
    by_cases z1 : z = "once"
    · rw [show (z == ("once" : Str)) = true from beq_iff_eq.mpr z1]
      refine iteT ⟨Nat.le_of_ble_eq_true rfl, fun q hq => ?_⟩
      refine k _ q [1] (same_upd hq) upd_same ⟨by simp, by simp, fun s hs => by simp at hs; omega, fun s _ hs => ?_⟩
      rcases hs with ⟨_, e⟩ | ⟨e, _⟩ | e | ⟨e, _⟩
      · simp [e]
      · rw [z1] at e; exact absurd e (by decide +kernel)
      · rw [z1] at e; exact absurd e (by decide +kernel)
      · rw [z1] at e; exact absurd e (by decide +kernel)
    rw [show (z == ("once" : Str)) = false from beq_eq_false_iff_ne.mpr z1]
    refine iteF ⟨_, rfl, _, _, _, _, rfl, rfl, SqT.of hp, rfl, rfl, _, rfl, ?_⟩
    rw [dec_str]
    by_cases z2 : z = "loan"
    · rw [show (z == ("loan" : Str)) = true from beq_iff_eq.mpr z2]
      refine iteT ⟨Nat.le_of_ble_eq_true rfl, fun q hq => ?_⟩
      refine k _ q [0, 1] (same_upd hq) upd_same ⟨by simp, by simp, fun s hs => by simp at hs; omega, fun s _ hs => ?_⟩
      rcases hs with ⟨e, _⟩ | ⟨_, e⟩ | e | ⟨e, _⟩
      · exact absurd e z1
      · rcases e with e | e <;> simp [e]
      · rw [z2] at e; exact absurd e (by decide +kernel)
      · rw [z2] at e; exact absurd e (by decide +kernel)
    rw [show (z == ("loan" : Str)) = false from beq_eq_false_iff_ne.mpr z2]
    refine iteF ⟨_, rfl, _, _, _, _, rfl, rfl, SqT.of hp, rfl, rfl, _, rfl, ?_⟩
    rw [dec_str]
    by_cases z3 : z = "free"
    · rw [show (z == ("free" : Str)) = true from beq_iff_eq.mpr z3]
      refine iteT ⟨_, rfl, _, _, rfl, rfl, _, rfl, RgOk.of_le (by decide) (by decide) (by decide) (by decide), fun q hq => ?_⟩
      have e91 : rgV 0 (90 + 1) = (List.range 91).map nV := rgV_nat 91
      rw [e91]
      exact k _ q (List.range 91) (same_upd hq) upd_same ⟨by decide, by decide, fun s hs => by have := List.mem_range.mp hs; omega, fun s hs _ => List.mem_range.mpr (by omega)⟩
    rw [show (z == ("free" : Str)) = false from beq_eq_false_iff_ne.mpr z3]
    refine iteF ?_
    have z4 : z = "more" := ((ok.ok.word.resolve_left z1).resolve_left z2).resolve_left z3
    intro d hd
    refine ⟨upd_same, [(kn 0, V.bl true)], rfl, Nat.le_of_ble_eq_true rfl, ?_⟩
    have ed : mergeK [] [(kn 0, V.bl true)] = kd [0] := rfl
    rw [ed]
    have s2 : Same H (upd (upd H d (.dK [])) d (.dK (kd [0]))) := same_put hd (same_upd hd)
    have hd2 : (upd (upd H d (.dK [])) d (.dK (kd [0]))) d = some (.dK (kd [0])) := upd_same
    generalize upd (upd H d (.dK [])) d (.dK (kd [0])) = H2 at s2 hd2 ⊢
    refine ⟨_, rfl, 1, 90, rfl, ⟨by decide, by decide, by decide, by decide⟩, ?_⟩
    refine for_range (lo := 1) (n := 89) (fun i σ H3 => ∃ v3 v4 ks, σ = [some (.ref p), some (.int 90), some (.ref d), v3, v4] ∧ Same H H3 ∧ H3 d = some (.dK (kd ks)) ∧ ks.Nodup ∧ (∀ x ∈ ks, x ≤ i) ∧ 0 ∈ ks ∧ ∀ t, t ≤ i → (∃ k, Sm ms k (t + 1)) → t ∈ ks)
      ⟨_, _, [0], rfl, s2, hd2, by decide, fun x hx => by rw [List.mem_singleton.mp hx]; exact Nat.le_refl _, by decide, fun t ht _ => by rw [Nat.le_zero.mp ht]; decide⟩ ?_ ?_
    · rintro i σ H3 hi ⟨v3, v4, ks, rfl, s3, hd3, nd, kl, k0, kall⟩
      have ei : (1 : Int) + (i : Int) = ((i + 1 : Nat) : Int) := by omega
      refine ⟨_, rfl, _, _, _, _, rfl, rfl, SqT.of (s3 _ _ hp), rfl, mk, rfl, ⟨_, SqT.of (s3 _ _ hm)⟩, fun D hD => ?_⟩
      refine lc_it walk_tup (LcP H3 D (fun j acc _ => acc = ((ms.take j).map fun m => V.bl (decide (m ≤ i + 1 ∧ i + 1 - m ∈ ks))))) (LcP.zero hD rfl) (fun j H4 _ ⟨_, s1, _⟩ => SqT.of (s1 _ _ (s3 _ _ hm))) ?_ fun H4 h4 => ?_
      · rintro j x H4 _ hj ⟨acc, s4, hda, hle, e⟩ ⟨rfl, hx⟩
        obtain ⟨m, hm2, rfl⟩ := nV_at hx
        have hjl : j < ms.length := (List.getElem?_eq_some_iff.mp hm2).1
        refine ⟨rfl, tyes ?_⟩
        refine ⟨_, rfl, _, rfl, _, _, rfl, rfl, _, rfl, d, _, rfl, DGet.k (k := Sum.inl ((1 + (i : Int)) - (m : Int))) (s4 _ _ hd3), ?_⟩
        rw [kd_int]
        have eb : decide (0 ≤ (1 + (i : Int)) - (m : Int) ∧ ((1 + (i : Int)) - (m : Int)).toNat ∈ ks) = decide (m ≤ i + 1 ∧ i + 1 - m ∈ ks) := by
          rw [decide_eq_decide]
          have : ((1 + (i : Int)) - (m : Int)).toNat = i + 1 - m := by omega
          rw [this]
          exact ⟨fun ⟨a, b⟩ => ⟨by omega, b⟩, fun ⟨a, b⟩ => ⟨by omega, b⟩⟩
        rw [eb]
        refine LcP.put hD s4 hda hle (Nat.lt_of_lt_of_le hjl (Nat.le_trans ok.len (by decide))) (Same.refl _) ?_
        rw [e]
        exact take_succ_map hm2
      obtain ⟨hq, s4⟩ := finMap (K := K) (List.length_map ..) h4
      refine ⟨D, _, rfl, hq, ?_⟩
      rw [any_map]
      have hd4 := s4 _ _ hd3
      have all2 : ∀ ks2 : List Nat, (∀ x ∈ ks, x ∈ ks2) → ((∃ m ∈ ms, m ≤ i + 1 ∧ i + 1 - m ∈ ks) → i + 1 ∈ ks2) → ∀ t, t ≤ i + 1 → (∃ k, Sm ms k (t + 1)) → t ∈ ks2 := by
        intro ks2 sub new t ht hs
        rcases Nat.lt_or_ge t (i + 1) with q | q
        · exact sub t (kall t (by omega) hs)
        · have e : t = i + 1 := by omega
          subst e
          obtain ⟨kk, hk⟩ := hs
          rcases hk.inv with e0 | ⟨m, kk', s, hmm, tt, e0⟩
          · omega
          · have p1 := tt.pos
            have mr := (ok.ok.rng m hmm).1
            refine new ⟨m, hmm, by omega, kall _ (by omega) ⟨kk', ?_⟩⟩
            have : i + 1 - m + 1 = s := by omega
            rw [this]
            exact tt
      refine ⟨_, rfl, ?_⟩
      by_cases ha : ms.any (fun m => decide (m ≤ i + 1 ∧ i + 1 - m ∈ ks)) = true
      · rw [ha]
        refine iteT ?_
        have kl2 : ks.length ≤ 90 := Nat.le_trans (nodup_len (i + 1) ks nd fun x hx => by have := kl x hx; omega) (by omega)
        refine ⟨_, rfl, _, rfl, d, _, rfl, DPut.k (k := Sum.inl (1 + (i : Int))) hd4 (by rw [kd_len]; exact Nat.lt_of_le_of_lt kl2 (by decide)), ?_⟩
        rw [ei, kd_put]
        refine ⟨_, _, insN ks (i + 1), rfl, same_put hd (s3.trans s4), upd_same, insN_nodup nd, fun x hx => ?_, mem_insN.mpr (.inl k0), all2 _ (fun x hx => mem_insN.mpr (.inl hx)) fun _ => mem_insN.mpr (.inr rfl)⟩
        rcases mem_insN.mp hx with q | q
        · have := kl x q
          omega
        · omega
      · have ha2 : ms.any (fun m => decide (m ≤ i + 1 ∧ i + 1 - m ∈ ks)) = false := by simpa using ha
        rw [ha2]
        refine iteF ⟨_, _, ks, rfl, s3.trans s4, hd4, nd, fun x hx => Nat.le_succ_of_le (kl x hx), k0, all2 ks (fun x hx => hx) fun ⟨m, hmm, h1, h2⟩ => absurd (List.any_eq_true.mpr ⟨m, hmm, decide_eq_true ⟨h1, h2⟩⟩) ha⟩
    · rintro σ H3 ⟨v3, v4, ks, rfl, s3, hd3, nd, kl, k0, kall⟩
      have kl2 : ks.length ≤ 90 := nodup_len 90 ks nd fun x hx => by have := kl x hx; omega
      refine ⟨_, rfl, d, kd ks, ks.map (fun (x : Nat) => (x : Int)), rfl, .inl hd3, kd_fst ks, by rw [List.length_map]; omega, fun ys q hperm hsort hq => ?_⟩
      obtain ⟨hs, rfl, hl, hm3⟩ := sorted_N hperm
      rw [mapV]
      have a1 := same_upd (o := .lst (hs.map nV)) hq
      refine ⟨q, rfl, ⟨_, SqL.of upd_same⟩, fun D hD => ?_⟩
      refine lc_it walk_list (LcP (upd H3 q (.lst (hs.map nV))) D (fun j acc _ => acc = ((hs.take j).map fun t => nV (t + 1)))) (LcP.zero hD rfl) (fun j H4 _ ⟨_, s1, _⟩ => SqL.of (s1 _ _ upd_same)) ?_ fun H4 h4 => ?_
      · rintro j x H4 _ hj ⟨acc, s4, hda, hle, e⟩ ⟨rfl, hx⟩
        obtain ⟨t, ht, rfl⟩ := nV_at hx
        refine ⟨rfl, tyes ?_⟩
        refine ⟨_, rfl, _, _, rfl, rfl, ?_⟩
        refine LcP.put hD s4 hda hle (Nat.lt_of_lt_of_le hj (by rw [List.length_map, hl]; exact Nat.le_trans kl2 (by decide))) (Same.refl _) ?_
        rw [e]
        exact take_succ_map ht
      obtain ⟨acc, s4, hda, _, e⟩ := h4
      rw [List.length_map, List.take_length] at e
      have e2 : acc = (hs.map (· + 1)).map nV := by rw [e, List.map_map]; rfl
      rw [e2] at hda
      refine k _ D (hs.map (· + 1)) ((s3.trans a1).trans s4) hda ⟨?_, ?_, fun s hs2 => ?_, fun s hs2 hh => ?_⟩
      · intro q0
        have : 0 ∈ hs := (hm3 0).mpr k0
        rw [List.map_eq_nil_iff.mp q0] at this
        cases this
      · rw [List.length_map, hl]
        omega
      · obtain ⟨t, ht, rfl⟩ := List.mem_map.mp hs2
        have := kl t ((hm3 t).mp ht)
        omega
      · rcases hh with ⟨e, _⟩ | ⟨e, _⟩ | e | ⟨_, kk, hk⟩
        · exact absurd e z1
        · exact absurd e z2
        · exact absurd e z3
        · have p1 := hk.pos
          refine List.mem_map.mpr ⟨s - 1, (hm3 _).mpr (kall _ (by omega) ⟨kk, ?_⟩), by omega⟩
          rw [show s - 1 + 1 = s by omega]
          exact hk
end
end UC
set_option Elab.async false
set_option linter.all false
set_option maxRecDepth 100000
set_option maxHeartbeats 8000000
/-! The law's joinings: plain ones, pairs. -/
namespace UC
open PySem PySem.Spec PyProof.Rows L2
/-- a table as the code made it: a list of lists -/
def TblH (H : Hp) (a : Addr) (J : List (List Nat)) : Prop := ∃ bs : List Addr, H a = some (.lst (bs.map V.ref)) ∧ Paired (fun b (r : List Nat) => H b = some (.lst (r.map nV))) bs J
theorem TblH.t {K : PySem.W.Frag} {H : Hp} {a : Addr} {J : List (List Nat)} (h : TblH H a J) : TblL K H a J := by
  obtain ⟨bs, h1, h2⟩ := h
  exact ⟨bs, SqL.of h1, Paired.mapP h2 fun _ _ q => SqL.of q⟩
theorem TblH.same {H H' : Hp} {a : Addr} {J : List (List Nat)} (e : Same H H') (h : TblH H a J) : TblH H' a J := by
  obtain ⟨bs, h1, h2⟩ := h
  exact ⟨bs, e _ _ h1, Paired.mapP h2 fun _ _ q => e _ _ q⟩
theorem TblH.len {K : PySem.W.Frag} {H : Hp} {a : Addr} {J : List (List Nat)} (h : TblH H a J) : LenV K (.ref a) H J.length := by
  obtain ⟨bs, h1, h2⟩ := h
  exact .inl ⟨_, SqL.of h1, by rw [List.length_map, pairedLen h2]⟩
theorem tab_take {n : Nat} {f : Nat → Nat → Nat} {i : Nat} (h : i < n) : (tab n f).take (i + 1) = (tab n f).take i ++ [(List.range n).map fun v => f i v] := by
  rw [List.take_add_one, tab_row h]
  rfl
theorem range_snoc {f : Nat → Nat} {j : Nat} : ((List.range (j + 1)).map fun v => nV (f v)) = ((List.range j).map fun v => nV (f v)) ++ [nV (f j)] := by
  rw [List.range_succ, List.map_append]
  rfl
section
variable {P : Program} {w : World} {K : PySem.W.Frag} {mg : Str → Option Value} {base : Heap}
/-- rows so far, in a list that the code fills -/
def RowsSo (H : Hp) (l : Addr) (n : Nat) (f : Nat → Nat → Nat) (i : Nat) (H' : Hp) : Prop := Same H H' ∧ ∃ bs : List Addr, H' l = some (.lst (bs.map V.ref)) ∧ Paired (fun b (r : List Nat) => b ≠ l ∧ H' b = some (.lst (r.map nV))) bs ((tab n f).take i)
theorem RowsSo.put {H H' : Hp} {l b : Addr} {n i : Nat} {f : Nat → Nat → Nat} (h : RowsSo H l n f i H') (l0 : H l = none) (hb : H' b = some (.lst ((List.range n).map fun v => nV (f i v)))) (nbl : b ≠ l) (hi : i < n) :
    ∃ bs : List Addr, H' l = some (.lst (bs.map V.ref)) ∧ bs.length = i ∧ RowsSo H l n f (i + 1) (upd H' l (.lst (bs.map V.ref ++ [.ref b]))) := by
  obtain ⟨s1, bs, h1, h2⟩ := h
  refine ⟨bs, h1, ?_, same_put l0 s1, bs ++ [b], by rw [upd_same, List.map_append]; rfl, ?_⟩
  · have := pairedLen h2
    rw [List.length_take, tab_len] at this
    omega
  · rw [tab_take hi]
    refine pairedSnoc (Paired.mapP h2 fun c r ⟨q1, q2⟩ => ⟨q1, by rw [upd_ne q1]; exact q2⟩) ⟨nbl, ?_⟩
    rw [upd_ne nbl, hb, List.map_map]
    rfl
theorem RowsSo.fin {H H' : Hp} {l : Addr} {n : Nat} {f : Nat → Nat → Nat} (h : RowsSo H l n f n H') : Same H H' ∧ TblH H' l (tab n f) := by
  obtain ⟨s1, bs, h1, h2⟩ := h
  rw [List.take_of_length_le (by rw [tab_len]; exact Nat.le_refl _)] at h2
  exact ⟨s1, bs, h1, Paired.mapP h2 fun _ _ q => q.2⟩
theorem RowsSo.zero {H : Hp} {l : Addr} {n : Nat} {f : Nat → Nat → Nat} (l0 : H l = none) : RowsSo H l n f 0 (upd H l (.lst [])) := ⟨same_upd l0, [], upd_same, .nil⟩
theorem RowsSo.keep {H H' H'' : Hp} {l rl : Addr} {n i : Nat} {f : Nat → Nat → Nat} (h : RowsSo H l n f i H') (r0 : H' rl = none) (e : SameX rl H' H'') : RowsSo H l n f i H'' := by
  obtain ⟨s1, bs, h1, h2⟩ := h
  exact ⟨fun b o q => e b o (ne_of_none (s1 _ _ q) r0) (s1 _ _ q), bs, e _ _ (ne_of_none h1 r0) h1, Paired.mapP h2 fun c r ⟨q1, q2⟩ => ⟨q1, e _ _ (ne_of_none q2 r0) q2⟩⟩
def sp_law_plain : Sp := fun vs H Q _ => ∃ (d : Addr) (k : Nat), vs = [.ref d, nV k] ∧ PoolAt H d ∧ k < 4 ∧ ∀ (H' : Hp) (p : Addr) (n a : Nat), n ≤ 5 → a < n → Same H H' → TblH H' p (tab n (plF k n a)) → Q (.ref p) H'
theorem sc_law_plain_joining : FnScope ["_law_pool_here", "_law_kind_here", "_law_many", "_law_ahead", "_law_rows", "_law_u", "_law_row", "_law_v", "_law_both"] ["_law_pool_here", "_law_kind_here"] (defScope s_law_plain_joining) := ⟨rfl, rfl, rfl, by decide +kernel, rfl, by decide +kernel, by decide +kernel⟩
theorem ok_law_plain (T : Txt K mg) : Pr P w K mg base 2 "_law_plain_joining" ["_law_pool_here", "_law_kind_here"] sp_law_plain := by
  have G_law_draw : Pr P w K mg base 1 "_law_draw" _ _ := ok_law_draw T
  refine T.d_law_plain_joining.pr sc_law_plain_joining (fun vs H Q E h => ?_) (fun _ _ _ _ _ _ us hl => match us, hl with | [_, _], _ => rfl) (fun f cdv A outer s H vs Q E hr h => ?_)
  · obtain ⟨d, k, rfl, _⟩ := h
    rfl
  · obtain ⟨d, k, rfl, hp, hk, q⟩ := h
    refine ⟨_, (pss_cons (ps_s 2 sc_law_plain_joining.nd (pe_op op_add pe_int (pe_callP G_law_draw hr (by decide) (pa_cons (pv 0) (pa_cons pe_int pa_nil)))))
    (pss_cons (ps_s 3 sc_law_plain_joining.nd (pe_callP G_law_draw hr (by decide) (pa_cons (pv 0) (pa_cons (pv 2) pa_nil))))
    (pss_cons (ps_s 4 sc_law_plain_joining.nd (pe_lst pa_nil))
    (pss_cons (ps_for PassesOwn.never rfl (pi_range1 rfl T.b_range (pa_cons (pv 2) pa_nil)) (pg_n 5 sc_law_plain_joining.nd)
      (pss_cons (ps_s 6 sc_law_plain_joining.nd (pe_lst pa_nil))
      (pss_cons (ps_for PassesOwn.never rfl (pi_range1 rfl T.b_range (pa_cons (pv 2) pa_nil)) (pg_n 7 sc_law_plain_joining.nd)
        (pss_cons (ps_s 8 sc_law_plain_joining.nd (pe_op op_add (pv 5) (pv 7)))
        (pss_cons (ps_if (pt_cmpR op_eq (pv 1) pe_int (nomark _))
          (pss_one (ps_s 8 sc_law_plain_joining.nd (pe_op op_mod (pe_callTy call_int1 rfl T.b_int (by decide +kernel) (pa_cons (pv 8) pa_nil)) (pv 2))))
          pss_nil)
        (pss_cons (ps_if (pt_cmpR op_eq (pv 1) pe_int (nomark _))
          (pss_one (ps_s 8 sc_law_plain_joining.nd (pe_callB (call_min2 rfl) rfl T.b_min (by decide +kernel) (pa_cons (pv 8) (pa_cons (pe_op op_sub (pv 2) pe_int) pa_nil)))))
          pss_nil)
        (pss_cons (ps_if (pt_cmpR op_eq (pv 1) pe_int (nomark _))
          (pss_one (ps_s 8 sc_law_plain_joining.nd (pe_callB (call_max2 rfl) rfl T.b_max (by decide +kernel) (pa_cons (pv 5) (pa_cons (pv 7) pa_nil)))))
          pss_nil)
        (pss_cons (ps_if (PW.pt (pw_and (pt_cmpR op_eq (pv 1) pe_int (nomark _)) (pw_and1 (pt_cmpR op_ge (pv 8) (pv 2) (nomark _)))))
          (pss_one (ps_s 8 sc_law_plain_joining.nd (pe_op op_add (pv 3) (pe_op op_mod (pe_callTy call_int1 rfl T.b_int (by decide +kernel) (pa_cons (pe_op op_sub (pv 8) (pv 3)) pa_nil)) (pe_op op_sub (pv 2) (pv 3))))))
          pss_nil)
        (pss_one (ps_expr (pe_bm PySem.F.plainAttrs_list PySem.F.slot_list_append PySem.F.type_list_append mt_append (pv 6) (pa_cons (pv 8) pa_nil))))))))))
      (pss_one (ps_expr (pe_bm PySem.F.plainAttrs_list PySem.F.slot_list_append PySem.F.type_list_append mt_append (pv 4) (pa_cons (pv 6) pa_nil)))))))
    (pss_one (ps_ret (pv 4))))))), ?_⟩
    simp only [st_c, st_n, st_0]
    refine ⟨_, rfl, d, 5, rfl, hp, by decide, by decide, fun r hr5 => ⟨_, _, rfl, rfl, ?_⟩⟩
    have en : ((1 : Int) + (r : Int)) = ((1 + r : Nat) : Int) := by omega
    dsimp only
    rw [en]
    generalize hn0 : 1 + r = n at *
    have n1 : 1 ≤ n := by omega
    have n5 : n ≤ 5 := by omega
    refine ⟨_, rfl, _, rfl, d, n, rfl, hp, n1, by omega, fun a ha => ?_⟩
    refine ⟨Nat.zero_le _, fun l hl => ?_⟩
    refine ⟨_, rfl, _, rfl, by omega, by omega, ?_⟩
    refine for_range (lo := 0) (n := n) (fun i σ H2 => ∃ v5 v6 v7 v8, σ = [some (.ref d), some (nV k), some (nV n), some (nV a), some (.ref l), v5, v6, v7, v8] ∧ RowsSo H l n (plF k n a) i H2) ⟨_, _, _, _, rfl, RowsSo.zero hl⟩ ?_ ?_
    · rintro i σ H1 hi ⟨v5, v6, v7, v8, rfl, so⟩
      rw [show (0 : Int) + (i : Int) = (i : Int) from Int.zero_add _]
      refine ⟨Nat.zero_le _, fun rl hrl0 => ?_⟩
      have so2 := so.keep hrl0 (sameX_upd (o := .lst []))
      have nrl : rl ≠ l := by
        obtain ⟨_, bs, h1, _⟩ := so
        exact (ne_of_none h1 hrl0).symm
      have hH2 : (upd H1 rl (.lst [])) rl = some (.lst []) := upd_same
      refine ⟨_, rfl, _, rfl, by omega, by omega, ?_⟩
      have sxx : SameX rl H1 (upd H1 rl (.lst [])) := sameX_upd
      generalize hH : upd H1 rl (.lst []) = H2 at so2 hH2 sxx ⊢
      refine for_range (lo := 0) (n := n) (fun j σ H4 => ∃ v7 v8, σ = [some (.ref d), some (nV k), some (nV n), some (nV a), some (.ref l), some (nV i), some (.ref rl), v7, v8] ∧ SameX rl H2 H4 ∧ H4 rl = some (.lst ((List.range j).map fun v => nV (plF k n a i v)))) ⟨_, _, rfl, fun b o _ e => e, hH2⟩ ?_ ?_
      · rcases (show k = 0 ∨ k = 1 ∨ k = 2 ∨ k = 3 by omega) with rfl | rfl | rfl | rfl
        · skip
          rintro j σ H4 hj ⟨v7, v8, rfl, sx4, hrl⟩
          rw [show (0 : Int) + (j : Int) = (j : Int) from Int.zero_add _]
          have fin : ∀ (x v7 v8 : V), x = nV (plF 0 n a i j) → ∃ w7 w8, [some (V.ref d), some (nV 0), some (nV n), some (nV a), some (.ref l), some (nV i), some (.ref rl), some v7, some v8] = [some (V.ref d), some (nV 0), some (nV n), some (nV a), some (.ref l), some (nV i), some (.ref rl), w7, w8] ∧ SameX rl H2 (upd H4 rl (.lst (((List.range j).map fun v => nV (plF 0 n a i v)) ++ [x]))) ∧ (upd H4 rl (.lst (((List.range j).map fun v => nV (plF 0 n a i v)) ++ [x]))) rl = some (.lst ((List.range (j + 1)).map fun v => nV (plF 0 n a i v))) := fun x v7 v8 hx => by
            refine ⟨_, _, rfl, fun b o nb e => by rw [upd_ne nb]; exact sx4 b o nb e, ?_⟩
            rw [upd_same, hx, range_snoc]
          have len : ((List.range j).map fun v => nV (plF 0 n a i v)).length < sizeLine := by
            rw [List.length_map, List.length_range]
            exact Nat.lt_of_le_of_lt (show j ≤ 5 by omega) (by decide)
          refine ⟨_, rfl, _, rfl, _, _, rfl, rfl, ?_⟩
          refine ⟨_, rfl, rfl, _, rfl, iteT ⟨_, rfl, .inl ⟨_, rfl, _, rfl, _, _, rfl, rfl, (show (0 : Int) < (n : Int) by omega), ?_⟩⟩⟩
          refine ⟨_, rfl, rfl, _, rfl, iteF ?_⟩
          refine ⟨_, rfl, rfl, _, rfl, iteF ?_⟩
          refine ⟨_, rfl, rfl, _, rfl, iteF ?_⟩
          refine ⟨_, rfl, .inl ⟨rfl, _, SqL.of hrl⟩, _, rfl, rl, _, _, rfl, rfl, hrl, len, ?_⟩
          exact fin _ _ _ (congrArg V.int (show ((i : Int) + (j : Int)) % (n : Int) = (((i + j) % n : Nat) : Int) by rw [Int.natCast_emod, Int.natCast_add]))
        · skip
          rintro j σ H4 hj ⟨v7, v8, rfl, sx4, hrl⟩
          rw [show (0 : Int) + (j : Int) = (j : Int) from Int.zero_add _]
          have fin : ∀ (x v7 v8 : V), x = nV (plF 1 n a i j) → ∃ w7 w8, [some (V.ref d), some (nV 1), some (nV n), some (nV a), some (.ref l), some (nV i), some (.ref rl), some v7, some v8] = [some (V.ref d), some (nV 1), some (nV n), some (nV a), some (.ref l), some (nV i), some (.ref rl), w7, w8] ∧ SameX rl H2 (upd H4 rl (.lst (((List.range j).map fun v => nV (plF 1 n a i v)) ++ [x]))) ∧ (upd H4 rl (.lst (((List.range j).map fun v => nV (plF 1 n a i v)) ++ [x]))) rl = some (.lst ((List.range (j + 1)).map fun v => nV (plF 1 n a i v))) := fun x v7 v8 hx => by
            refine ⟨_, _, rfl, fun b o nb e => by rw [upd_ne nb]; exact sx4 b o nb e, ?_⟩
            rw [upd_same, hx, range_snoc]
          have len : ((List.range j).map fun v => nV (plF 1 n a i v)).length < sizeLine := by
            rw [List.length_map, List.length_range]
            exact Nat.lt_of_le_of_lt (show j ≤ 5 by omega) (by decide)
          refine ⟨_, rfl, _, rfl, _, _, rfl, rfl, ?_⟩
          refine ⟨_, rfl, rfl, _, rfl, iteF ?_⟩
          refine ⟨_, rfl, rfl, _, rfl, iteT ⟨_, rfl, _, rfl, _, _, rfl, rfl, _, _, rfl, ?_⟩⟩
          refine ⟨_, rfl, rfl, _, rfl, iteF ?_⟩
          refine ⟨_, rfl, rfl, _, rfl, iteF ?_⟩
          refine ⟨_, rfl, .inl ⟨rfl, _, SqL.of hrl⟩, _, rfl, rl, _, _, rfl, rfl, hrl, len, ?_⟩
          refine fin _ _ _ (congrArg V.int ?_)
          show (if (n : Int) - 1 < (i : Int) + (j : Int) then (n : Int) - 1 else (i : Int) + (j : Int)) = ((min (i + j) (n - 1) : Nat) : Int)
          split <;> omega
        · skip
          rintro j σ H4 hj ⟨v7, v8, rfl, sx4, hrl⟩
          rw [show (0 : Int) + (j : Int) = (j : Int) from Int.zero_add _]
          have fin : ∀ (x v7 v8 : V), x = nV (plF 2 n a i j) → ∃ w7 w8, [some (V.ref d), some (nV 2), some (nV n), some (nV a), some (.ref l), some (nV i), some (.ref rl), some v7, some v8] = [some (V.ref d), some (nV 2), some (nV n), some (nV a), some (.ref l), some (nV i), some (.ref rl), w7, w8] ∧ SameX rl H2 (upd H4 rl (.lst (((List.range j).map fun v => nV (plF 2 n a i v)) ++ [x]))) ∧ (upd H4 rl (.lst (((List.range j).map fun v => nV (plF 2 n a i v)) ++ [x]))) rl = some (.lst ((List.range (j + 1)).map fun v => nV (plF 2 n a i v))) := fun x v7 v8 hx => by
            refine ⟨_, _, rfl, fun b o nb e => by rw [upd_ne nb]; exact sx4 b o nb e, ?_⟩
            rw [upd_same, hx, range_snoc]
          have len : ((List.range j).map fun v => nV (plF 2 n a i v)).length < sizeLine := by
            rw [List.length_map, List.length_range]
            exact Nat.lt_of_le_of_lt (show j ≤ 5 by omega) (by decide)
          refine ⟨_, rfl, _, rfl, _, _, rfl, rfl, ?_⟩
          refine ⟨_, rfl, rfl, _, rfl, iteF ?_⟩
          refine ⟨_, rfl, rfl, _, rfl, iteF ?_⟩
          refine ⟨_, rfl, rfl, _, rfl, iteT ⟨_, rfl, _, rfl, _, _, rfl, ?_⟩⟩
          refine ⟨_, rfl, rfl, _, rfl, iteF ?_⟩
          refine ⟨_, rfl, .inl ⟨rfl, _, SqL.of hrl⟩, _, rfl, rl, _, _, rfl, rfl, hrl, len, ?_⟩
          refine fin _ _ _ (congrArg V.int ?_)
          show (if (j : Int) > (i : Int) then (j : Int) else (i : Int)) = ((max i j : Nat) : Int)
          split <;> omega
        · skip
          rintro j σ H4 hj ⟨v7, v8, rfl, sx4, hrl⟩
          rw [show (0 : Int) + (j : Int) = (j : Int) from Int.zero_add _]
          have fin : ∀ (x v7 v8 : V), x = nV (plF 3 n a i j) → ∃ w7 w8, [some (V.ref d), some (nV 3), some (nV n), some (nV a), some (.ref l), some (nV i), some (.ref rl), some v7, some v8] = [some (V.ref d), some (nV 3), some (nV n), some (nV a), some (.ref l), some (nV i), some (.ref rl), w7, w8] ∧ SameX rl H2 (upd H4 rl (.lst (((List.range j).map fun v => nV (plF 3 n a i v)) ++ [x]))) ∧ (upd H4 rl (.lst (((List.range j).map fun v => nV (plF 3 n a i v)) ++ [x]))) rl = some (.lst ((List.range (j + 1)).map fun v => nV (plF 3 n a i v))) := fun x v7 v8 hx => by
            refine ⟨_, _, rfl, fun b o nb e => by rw [upd_ne nb]; exact sx4 b o nb e, ?_⟩
            rw [upd_same, hx, range_snoc]
          have len : ((List.range j).map fun v => nV (plF 3 n a i v)).length < sizeLine := by
            rw [List.length_map, List.length_range]
            exact Nat.lt_of_le_of_lt (show j ≤ 5 by omega) (by decide)
          refine ⟨_, rfl, _, rfl, _, _, rfl, rfl, ?_⟩
          refine ⟨_, rfl, rfl, _, rfl, iteF ?_⟩
          refine ⟨_, rfl, rfl, _, rfl, iteF ?_⟩
          refine ⟨_, rfl, rfl, _, rfl, iteF ?_⟩
          refine ⟨_, rfl, rfl, _, rfl, iteT ⟨_, rfl, _, rfl, _, _, rfl, rfl, _, rfl, ?_⟩⟩
          by_cases c : (n : Int) ≤ (i : Int) + (j : Int)
          · rw [decide_eq_true c]
            refine iteT ⟨_, rfl, _, rfl, _, rfl, _, _, rfl, rfl, .inl ⟨_, rfl, _, rfl, _, rfl, _, _, rfl, rfl, _, _, rfl, rfl, (show (0 : Int) < (n : Int) - (a : Int) by omega), _, _, rfl, rfl, ?_⟩⟩
            refine ⟨_, rfl, .inl ⟨rfl, _, SqL.of hrl⟩, _, rfl, rl, _, _, rfl, rfl, hrl, len, ?_⟩
            refine fin _ _ _ (congrArg V.int ?_)
            show (a : Int) + ((i : Int) + (j : Int) - (a : Int)) % ((n : Int) - (a : Int)) = ((plF 3 n a i j : Nat) : Int)
            have e : plF 3 n a i j = a + (i + j - a) % (n - a) := if_pos (show i + j ≥ n by omega)
            have e1 : ((i : Int) + (j : Int) - (a : Int)) = ((i + j - a : Nat) : Int) := by omega
            have e2 : ((n : Int) - (a : Int)) = ((n - a : Nat) : Int) := by omega
            rw [e, e1, e2, Int.natCast_add, Int.natCast_emod]
          · rw [decide_eq_false c]
            refine iteF ?_
            refine ⟨_, rfl, .inl ⟨rfl, _, SqL.of hrl⟩, _, rfl, rl, _, _, rfl, rfl, hrl, len, ?_⟩
            refine fin _ _ _ (congrArg V.int ?_)
            show (i : Int) + (j : Int) = ((plF 3 n a i j : Nat) : Int)
            have e : plF 3 n a i j = i + j := if_neg (show ¬ i + j ≥ n by omega)
            rw [e]
            omega
      · rintro σ H4 ⟨v7, v8, rfl, sx4, hrl⟩
        have so4 := so.keep hrl0 (fun b o nb e => sx4 b o nb (sxx b o nb e))
        obtain ⟨bs, hbs, bl, so5⟩ := so4.put hl hrl nrl hi
        refine ⟨_, rfl, .inl ⟨rfl, _, SqL.of hbs⟩, _, rfl, l, _, _, rfl, rfl, hbs, by rw [List.length_map]; exact Nat.lt_of_le_of_lt (show bs.length ≤ 5 by omega) (by decide), ?_⟩
        exact ⟨_, _, _, _, rfl, so5⟩
    · rintro σ H2 ⟨v5, v6, v7, v8, rfl, so⟩
      obtain ⟨s1, tb⟩ := so.fin
      exact ⟨_, rfl, q H2 l n a n5 ha s1 tb⟩
end
end UC
set_option Elab.async false
set_option linter.all false
set_option maxRecDepth 100000
set_option maxHeartbeats 8000000
/-! The law's joinings: pairs, numbered anew. -/
namespace UC
open PySem PySem.Spec PyProof.Rows L2
theorem TblL.at2 {K : PySem.W.Frag} {H : Hp} {a : Addr} {J : List (List Nat)} (M : Mon J) (h : TblL K H a J) {u v : Nat} (hu : u < J.length) (hv : v < J.length) : ∃ (xs ys : List V) (b : Addr), SqL K H a xs ∧ atI xs (u : Int) = some (.ref b) ∧ SqL K H b ys ∧ atI ys (v : Int) = some (nV (jn J u v)) := by
  obtain ⟨r, e1, e2⟩ := M.at_row hu hv
  obtain ⟨xs, b, h1, h2, h3⟩ := h.row e1
  exact ⟨xs, _, b, h1, h2, h3, at_nV e2⟩
section
variable {P : Program} {w : World} {K : PySem.W.Frag} {mg : Str → Option Value} {base : Heap}
def sp_law_paired : Sp := fun vs H Q _ => ∃ (a b : Addr) (A B : List (List Nat)), vs = [.ref a, .ref b] ∧ TblH H a A ∧ TblH H b B ∧ Mon A ∧ Mon B ∧ A.length * B.length < 13 ∧ ∀ (H' : Hp) (p : Addr), Same H H' → TblH H' p (tab (A.length * B.length) (prF A B)) → Q (.ref p) H'
theorem sc_law_paired : FnScope ["_law_one", "_law_other", "_law_wide", "_law_many", "_law_rows", "_law_u", "_law_row", "_law_v"] ["_law_one", "_law_other"] (defScope s_law_paired) := ⟨rfl, rfl, rfl, by decide +kernel, rfl, by decide +kernel, by decide +kernel⟩
theorem ok_law_paired (T : Txt K mg) : Pr P w K mg base 1 "_law_paired" ["_law_one", "_law_other"] sp_law_paired := by
  refine T.d_law_paired.pr sc_law_paired (fun vs H Q E h => ?_) (fun _ _ _ _ _ _ us hl => match us, hl with | [_, _], _ => rfl) (fun f cdv A outer s H vs Q E hr h => ?_)
  · obtain ⟨a, b, A, B, rfl, _⟩ := h
    rfl
  · obtain ⟨a, b, A, B, rfl, hA, hB, MA, MB, small, q⟩ := h
    refine ⟨_, (pss_cons (ps_s 2 sc_law_paired.nd (pe_callB call_len rfl T.b_len (by decide +kernel) (pa_cons (pv 1) pa_nil)))
    (pss_cons (ps_s 3 sc_law_paired.nd (pe_op op_mul (pe_callB call_len rfl T.b_len (by decide +kernel) (pa_cons (pv 0) pa_nil)) (pv 2)))
    (pss_cons (ps_s 4 sc_law_paired.nd (pe_lst pa_nil))
    (pss_cons (ps_for PassesOwn.never rfl (pi_range1 rfl T.b_range (pa_cons (pv 3) pa_nil)) (pg_n 5 sc_law_paired.nd)
      (pss_cons (ps_s 6 sc_law_paired.nd (pe_lst pa_nil))
      (pss_cons (ps_for PassesOwn.never rfl (pi_range1 rfl T.b_range (pa_cons (pv 3) pa_nil)) (pg_n 7 sc_law_paired.nd)
        (pss_one (ps_expr (pe_bm PySem.F.plainAttrs_list PySem.F.slot_list_append PySem.F.type_list_append mt_append (pv 6) (pa_cons (pe_op op_add (pe_op op_mul (pe_ix ix_list (pe_ix ix_list (pv 0) (pe_op op_fdiv (pv 5) (pv 2)) (fun _ _ => rfl)) (pe_op op_fdiv (pv 7) (pv 2)) (fun _ _ => rfl)) (pv 2)) (pe_ix ix_list (pe_ix ix_list (pv 1) (pe_op op_mod (pe_callTy call_int1 rfl T.b_int (by decide +kernel) (pa_cons (pv 5) pa_nil)) (pv 2)) (fun _ _ => rfl)) (pe_op op_mod (pe_callTy call_int1 rfl T.b_int (by decide +kernel) (pa_cons (pv 7) pa_nil)) (pv 2)) (fun _ _ => rfl))) pa_nil)))))
      (pss_one (ps_expr (pe_bm PySem.F.plainAttrs_list PySem.F.slot_list_append PySem.F.type_list_append mt_append (pv 4) (pa_cons (pv 6) pa_nil)))))))
    (pss_one (ps_ret (pv 4))))))), ?_⟩
    simp only [st_c, st_n, st_0]
    have pb := MB.pos
    have pa := MA.pos
    have lb : B.length ≤ A.length * B.length := Nat.le_mul_of_pos_left _ pa
    refine ⟨_, rfl, _, B.length, rfl, hB.len, ?_⟩
    refine ⟨_, rfl, _, A.length, rfl, hA.len, _, rfl, _, _, rfl, rfl, .inr ⟨by omega, by omega⟩, ?_⟩
    refine ⟨Nat.zero_le _, fun l hl => ?_⟩
    have en : ((A.length : Int) * (B.length : Int)) = ((A.length * B.length : Nat) : Int) := by rw [Int.natCast_mul]
    generalize hn : A.length * B.length = n at *
    refine ⟨_, rfl, (n : Int), congrArg (fun z => [V.int z]) en, by omega, by omega, ?_⟩
    have dv : ∀ u, u < n → u / B.length < A.length := fun u h => Nat.div_lt_of_lt_mul (by rw [Nat.mul_comm, hn]; exact h)
    have md : ∀ u, u % B.length < B.length := fun u => Nat.mod_lt _ pb
    have ed : ∀ u : Nat, ((u : Int) / (B.length : Int)) = ((u / B.length : Nat) : Int) := fun u => (Int.natCast_ediv u B.length).symm
    have em : ∀ u : Nat, ((u : Int) % (B.length : Int)) = ((u % B.length : Nat) : Int) := fun u => (Int.natCast_emod u B.length).symm
    refine for_range (lo := 0) (n := n) (fun i σ H2 => ∃ v5 v6 v7, σ = [some (.ref a), some (.ref b), some (nV B.length), some (.int ((A.length : Int) * (B.length : Int))), some (.ref l), v5, v6, v7] ∧ RowsSo H l n (prF A B) i H2) ⟨_, _, _, rfl, RowsSo.zero hl⟩ ?_ ?_
    · rintro i σ H1 hi ⟨v5, v6, v7, rfl, so⟩
      rw [show (0 : Int) + (i : Int) = (i : Int) from Int.zero_add _]
      refine ⟨Nat.zero_le _, fun rl hrl0 => ?_⟩
      have nrl : rl ≠ l := by
        obtain ⟨_, bs, h1, _⟩ := so
        exact (ne_of_none h1 hrl0).symm
      have hH2 : (upd H1 rl (.lst [])) rl = some (.lst []) := upd_same
      refine ⟨_, rfl, (n : Int), congrArg (fun z => [V.int z]) en, by omega, by omega, ?_⟩
      have sxx : SameX rl H1 (upd H1 rl (.lst [])) := sameX_upd
      generalize hH : upd H1 rl (.lst []) = H2 at hH2 sxx ⊢
      refine for_range (lo := 0) (n := n) (fun j σ H4 => ∃ v7, σ = [some (.ref a), some (.ref b), some (nV B.length), some (.int ((A.length : Int) * (B.length : Int))), some (.ref l), some (nV i), some (.ref rl), v7] ∧ SameX rl H2 H4 ∧ H4 rl = some (.lst ((List.range j).map fun v => nV (prF A B i v)))) ⟨_, rfl, fun b o _ e => e, hH2⟩ ?_ ?_
      · rintro j σ H4 hj ⟨v7, rfl, sx4, hrl⟩
        rw [show (0 : Int) + (j : Int) = (j : Int) from Int.zero_add _]
        have sH : Same H H4 := fun b o e => sx4 b o (ne_of_none (so.1 _ _ e) hrl0) (sxx b o (ne_of_none (so.1 _ _ e) hrl0) (so.1 _ _ e))
        obtain ⟨x1, y1, b1, g1, g2, g3, g4⟩ := ((hA.same sH).t (K := K)).at2 MA (dv i hi) (dv j hj)
        obtain ⟨x2, y2, b2, k1, k2, k3, k4⟩ := ((hB.same sH).t (K := K)).at2 MB (md i) (md j)
        have cd : CDiv (i : Int) (B.length : Int) := ⟨by omega, by omega⟩
        have cd2 : CDiv (j : Int) (B.length : Int) := ⟨by omega, by omega⟩
        have mp : (0 : Int) < (B.length : Int) := by omega
        refine ⟨_, rfl, .inl ⟨rfl, _, SqL.of hrl⟩, _, rfl, _, rfl, _, rfl, _, _, rfl, rfl, cd, _, _, _, _, rfl, rfl, g1, (by rw [ed]; exact g2), _, rfl, _, rfl, _, _, rfl, rfl, cd2, _, _, _, _, rfl, rfl, g3, (by rw [ed]; exact g4), _, rfl, _, _, rfl, rfl, .inr ⟨by omega, by omega⟩, ?_⟩
        refine ⟨_, rfl, _, rfl, .inl ⟨_, rfl, _, rfl, _, _, rfl, rfl, mp, _, _, _, _, rfl, rfl, k1, (by rw [em]; exact k2), _, rfl, .inl ⟨_, rfl, _, rfl, _, _, rfl, rfl, mp, _, _, _, _, rfl, rfl, k3, (by rw [em]; exact k4), _, _, rfl, rfl, ?_⟩⟩⟩
        refine ⟨rl, _, _, rfl, rfl, hrl, by rw [List.length_map, List.length_range]; exact Nat.lt_of_le_of_lt (show j ≤ 13 by omega) (by decide), ?_⟩
        refine ⟨_, rfl, fun b o nb e => by rw [upd_ne nb]; exact sx4 b o nb e, ?_⟩
        rw [upd_same, range_snoc]
        have ev : V.int ((jn A (i / B.length) (j / B.length) : Int) * (B.length : Int) + (jn B (i % B.length) (j % B.length) : Int)) = nV (prF A B i j) := congrArg V.int (by unfold prF; rw [Int.natCast_add, Int.natCast_mul])
        exact congrArg (fun z => some (HO.lst (_ ++ [z]))) ev
      · rintro σ H4 ⟨v7, rfl, sx4, hrl⟩
        have so4 := so.keep hrl0 (fun b o nb e => sx4 b o nb (sxx b o nb e))
        obtain ⟨bs, hbs, bl, so5⟩ := so4.put hl hrl nrl hi
        refine ⟨_, rfl, .inl ⟨rfl, _, SqL.of hbs⟩, _, rfl, l, _, _, rfl, rfl, hbs, by rw [List.length_map]; exact Nat.lt_of_le_of_lt (show bs.length ≤ 13 by omega) (by decide), ?_⟩
        exact ⟨_, _, _, rfl, so5⟩
    · rintro σ H2 ⟨v5, v6, v7, rfl, so⟩
      obtain ⟨s1, tb⟩ := so.fin
      exact ⟨_, rfl, q H2 l s1 tb⟩
end
end UC
set_option Elab.async false
set_option linter.all false
set_option maxRecDepth 100000
set_option maxHeartbeats 8000000
/-! The law's joinings: numbered anew. -/
namespace UC
open PySem PySem.Spec PyProof.Rows L2
theorem rg1 {n : Nat} (h : 0 < n) : rgV 1 (n : Int) = (List.range' 1 (n - 1)).map nV := by
  unfold rgV
  have e : ((n : Int) - 1).toNat = n - 1 := by omega
  rw [e, List.range'_eq_map_range, List.map_map]
  refine List.map_congr_left fun i _ => ?_
  show V.int (1 + (i : Int)) = V.int ((1 + i : Nat) : Int)
  congr 1
/-- a table as it is read: list or tuple -/
def TblQ (K : PySem.W.Frag) (H : Hp) (a : Addr) (J : List (List Nat)) : Prop := TblL K H a J
section
variable {P : Program} {w : World} {K : PySem.W.Frag} {mg : Str → Option Value} {base : Heap}
def sp_law_joining : Sp := fun vs H Q _ => ∃ d : Addr, vs = [.ref d] ∧ PoolAt H d ∧ ∀ (H' : Hp) (p : Addr) (J : List (List Nat)), Same H H' → TblG H' p J → Mon J → J.length ≤ 12 → Q (.ref p) H'
theorem sc_law_joining : FnScope ["_law_pool_here", "_law_rows", "_law_other", "_law_left", "_law_order", "_law_place", "_law_u", "_law_turn", "_law_v"] ["_law_pool_here"] (defScope s_law_joining) := ⟨rfl, rfl, rfl, by decide +kernel, rfl, by decide +kernel, by decide +kernel⟩
theorem ok_law_joining (T : Txt K mg) : Pr P w K mg base 3 "_law_joining" ["_law_pool_here"] sp_law_joining := by
  have G_law_draw : Pr P w K mg base 1 "_law_draw" _ _ := ok_law_draw T
  have G_law_plain_joining : Pr P w K mg base 2 "_law_plain_joining" _ _ := ok_law_plain T
  have G_law_paired : Pr P w K mg base 1 "_law_paired" _ _ := ok_law_paired T
  refine T.d_law_joining.pr sc_law_joining (fun vs H Q E h => ?_) (fun _ _ _ _ _ _ us hl => match us, hl with | [_], _ => rfl) (fun f cdv A outer s H vs Q E hr h => ?_)
  · obtain ⟨d, rfl, _⟩ := h
    rfl
  · obtain ⟨d, rfl, hp, q⟩ := h
    refine ⟨_, (pss_cons (ps_s 1 sc_law_joining.nd (pe_callP G_law_plain_joining hr (by decide) (pa_cons (pv 0) (pa_cons (pe_callP G_law_draw hr (by decide) (pa_cons (pv 0) (pa_cons pe_int pa_nil))) pa_nil))))
    (pss_cons (ps_if (pt_cmpR op_eq (pe_callP G_law_draw hr (by decide) (pa_cons (pv 0) (pa_cons pe_int pa_nil))) pe_int (nomark _))
      (pss_cons (ps_s 2 sc_law_joining.nd (pe_callP G_law_plain_joining hr (by decide) (pa_cons (pv 0) (pa_cons (pe_callP G_law_draw hr (by decide) (pa_cons (pv 0) (pa_cons pe_int pa_nil))) pa_nil))))
      (pss_one (ps_if (pt_cmpR op_lt (pe_op op_mul (pe_callB call_len rfl T.b_len (by decide +kernel) (pa_cons (pv 1) pa_nil)) (pe_callB call_len rfl T.b_len (by decide +kernel) (pa_cons (pv 2) pa_nil))) pe_int (nomark _))
        (pss_one (ps_s 1 sc_law_joining.nd (pe_callP G_law_paired hr (by decide) (pa_cons (pv 1) (pa_cons (pv 2) pa_nil)))))
        pss_nil)))
      pss_nil)
    (pss_cons (ps_s 3 sc_law_joining.nd (pe_listRg rfl rfl T.b_list (prg_2 rfl T.b_range pe_int (pe_callB call_len rfl T.b_len (by decide +kernel) (pa_cons (pv 1) pa_nil)))))
    (pss_cons (ps_s 4 sc_law_joining.nd (pe_op op_cat (pe_lst (pa_cons pe_int pa_nil)) (pe_lc (own := [("_law_turn", 7)]) (g := gName 7) (tt := tYes) rfl sc_law_joining.nd (pi_range1 rfl T.b_range (pa_cons (pe_op op_sub (pe_callB call_len rfl T.b_len (by decide +kernel) (pa_cons (pv 1) pa_nil)) pe_int) pa_nil)) (blkOk_by (N := ["_law_pool_here", "_law_rows", "_law_other", "_law_left", "_law_order", "_law_place", "_law_u", "_law_turn", "_law_v"]) (sc := defScope s_law_joining) (by decide +kernel)) (fun _ _ _ _ _ => (pg_n 7 sc_law_joining.nd)) (fun _ _ _ _ _ => pts_nil) (fun _ _ _ _ _ => (pe_bmK (by rfl) PySem.F.plainAttrs_list PySem.F.slot_list_pop PySem.F.type_list_pop mt_popAt (pv 3) (pa_cons (pe_callP G_law_draw hr (by decide) (pa_cons (pv 0) (pa_cons (pe_callB (call_lenK (K := K) (by rfl)) (by rfl) T.b_len (by decide +kernel) (pa_cons (pv 3) pa_nil)) pa_nil))) pa_nil))))))
    (pss_cons (ps_s 5 sc_law_joining.nd (pe_lc (own := [("_law_u", 6)]) (g := gName 6) (tt := tYes) rfl sc_law_joining.nd (pi_range1 rfl T.b_range (pa_cons (pe_callB call_len rfl T.b_len (by decide +kernel) (pa_cons (pv 1) pa_nil)) pa_nil)) (blkOk_by (N := ["_law_pool_here", "_law_rows", "_law_other", "_law_left", "_law_order", "_law_place", "_law_u", "_law_turn", "_law_v"]) (sc := defScope s_law_joining) (by decide +kernel)) (fun _ _ _ _ _ => (pg_n 6 sc_law_joining.nd)) (fun _ _ _ _ _ => pts_nil) (fun _ _ _ _ _ => (pe_bmK (by rfl) PySem.F.plainAttrs_list PySem.F.slot_list_index PySem.F.type_list_index (mt_indexK (K := K) (by rfl)) (pv 4) (pa_cons (pv 6) pa_nil)))))
    (pss_one (ps_ret (pe_callTy call_tuple_of rfl T.b_tuple (by decide +kernel) (pa_cons (pe_lc (own := [("_law_u", 6)]) (g := gName 6) (tt := tYes) rfl sc_law_joining.nd (pi_list (pv 4)) (blkOk_by (N := ["_law_pool_here", "_law_rows", "_law_other", "_law_left", "_law_order", "_law_place", "_law_u", "_law_turn", "_law_v"]) (sc := defScope s_law_joining) (by decide +kernel)) (fun _ _ _ _ _ => (pg_n 6 sc_law_joining.nd)) (fun _ _ _ _ _ => pts_nil) (fun _ _ _ _ _ => (pe_callTy (call_tuple_ofK (K := K) rfl) rfl T.b_tuple (by decide +kernel) (pa_cons (pe_lc (own := [("_law_v", 8)]) (g := gName 8) (tt := tYes) rfl sc_law_joining.nd (pi_listK (K := K) rfl (pv 4)) (blkOk_by (by rfl)) (fun _ _ _ _ _ => (pg_n 8 sc_law_joining.nd)) (fun _ _ _ _ _ => pts_nil) (fun _ _ _ _ _ => (pe_ix (ix_listK (K := K) rfl) (pv 5) (pe_ix (ix_listK (K := K) rfl) (pe_ix (ix_listK (K := K) rfl) (pv 1) (pv 6) (fun _ _ => rfl)) (pv 8) (fun _ _ => rfl)) (fun _ _ => rfl)))) pa_nil)))) pa_nil))))))))), ?_⟩
    simp only [st_c, st_n, st_0]
    refine ⟨_, rfl, _, rfl, d, 4, rfl, hp, by decide, by decide, fun r1 hr1 => ?_⟩
    refine ⟨d, r1, rfl, hp, hr1, fun H1 p1 n1 a1 ln1 la1 s1 tb1 => ?_⟩
    have M1 := plain_mon hr1 ln1 la1
    have hp1 := hp.same s1
    refine ⟨_, rfl, d, 3, rfl, hp1, by decide, by decide, fun r2 hr2 => ⟨rfl, _, rfl, ?_⟩⟩
    rw [dec_int]
    by_cases c0 : (r2 : Int) = 0
    · rw [show ((r2 : Int) == 0) = true from beq_iff_eq.mpr c0]
      refine iteT ?_
      refine ⟨_, rfl, _, rfl, d, 4, rfl, hp1, by decide, by decide, fun r3 hr3 => ?_⟩
      refine ⟨d, r3, rfl, hp1, hr3, fun H2 p2 n2 a2 ln2 la2 s2 tb2 => ?_⟩
      have M2 := plain_mon hr3 ln2 la2
      have tb1' := tb1.same s2
      have hp2 := hp1.same s2
      refine ⟨_, rfl, _, _, rfl, tb1'.len, _, rfl, _, _, rfl, tb2.len, _, _, rfl, rfl, .inl ⟨by rw [tab_len]; omega, by rw [tab_len]; omega⟩, _, _, rfl, rfl, _, rfl, ?_⟩
      by_cases c1 : ((tab n1 (plF r1 n1 a1)).length : Int) * ((tab n2 (plF r3 n2 a2)).length : Int) < 13
      · rw [decide_eq_true c1]
        refine iteT ?_
        refine ⟨_, rfl, _, rfl, p1, p2, _, _, rfl, tb1', tb2, M1, M2, by rw [← Int.natCast_mul] at c1; omega, fun H3 p3 s3 tb3 => ?_⟩
        have M3 := pair_mon M1 M2
        have c2 : (tab n1 (plF r1 n1 a1)).length * (tab n2 (plF r3 n2 a2)).length < 13 := by rw [← Int.natCast_mul] at c1; omega
        generalize hJ : tab ((tab n1 (plF r1 n1 a1)).length * (tab n2 (plF r3 n2 a2)).length) (prF (tab n1 (plF r1 n1 a1)) (tab n2 (plF r3 n2 a2))) = J at tb3 M3
        have ln : J.length ≤ 12 := by rw [← hJ, tab_len]; omega
        have M := M3
        have sB0 := (s1.trans s2).trans s3
        have hpB := hp2.same s3
        have lenB : ∀ H', Same H3 H' → LenV K (.ref p3) H' J.length := fun H' e => (tb3.same e).len
        have tbB : ∀ H', Same H3 H' → ∀ u v, u < J.length → v < J.length → ∃ (xs ys : List V) (b : Addr), SqL K H' p3 xs ∧ atI xs (u : Int) = some (.ref b) ∧ SqL K H' b ys ∧ atI ys (v : Int) = some (nV (jn J u v)) := fun H' e u v hu hv => ((tb3.same e).t (K := K)).at2 M hu hv
        refine ⟨_, rfl, _, J.length, rfl, (lenB H3 (Same.refl _)), _, _, rfl, rfl, RgOk.of_le (by omega) (by omega) (by omega) (by omega), fun l hl => ?_⟩
        rw [rg1 M.pos]
        have c1 := same_upd (o := .lst ((List.range' 1 (J.length - 1)).map nV)) hl
        have hl1 : (upd H3 l (.lst ((List.range' 1 (J.length - 1)).map nV))) l = some (.lst ((List.range' 1 (J.length - 1)).map nV)) := upd_same
        generalize upd H3 l (.lst ((List.range' 1 (J.length - 1)).map nV)) = HC at c1 hl1 ⊢
        refine ⟨Nat.le_of_ble_eq_true rfl, fun zl hzl => ?_⟩
        have c2 := same_upd (o := .lst [V.int 0]) hzl
        have hz2 : (upd HC zl (.lst [V.int 0])) zl = some (.lst [V.int 0]) := upd_same
        have hl2 := c2 _ _ hl1
        have nzl : zl ≠ l := (ne_of_none hl1 hzl).symm
        generalize upd HC zl (.lst [V.int 0]) = HD at c2 hz2 hl2 ⊢
        have c12 := c1.trans c2
        refine ⟨_, rfl, _, J.length, rfl, lenB HD c12, _, _, rfl, rfl, _, rfl, by omega, by omega, fun D hD => ?_⟩
        have nDl : D ≠ l := (ne_of_none hl2 hD).symm
        have nDz : D ≠ zl := (ne_of_none hz2 hD).symm
        have l0B : H3 l = none := hl
        have cnt : ((J.length : Int) - 1).toNat = J.length - 1 := by omega
        rw [cnt]
        refine lc_range (lo := 0) (n := J.length - 1) (fun i H' => ∃ tk lf : List Nat, (∀ b o, b ≠ l → HD b = some o → H' b = some o) ∧ H' D = some (.lst (tk.map nV)) ∧ H' l = some (.lst (lf.map nV)) ∧ tk.length = i ∧ lf.length = J.length - 1 - i ∧ (tk ++ lf).Perm (List.range' 1 (J.length - 1))) ⟨[], List.range' 1 (J.length - 1), fun b o _ e => same_upd hD _ _ e, upd_same, by rw [upd_ne nDl.symm]; exact hl2, rfl, by rw [List.length_range']; rfl, List.Perm.refl _⟩ ?_ fun HE hE => ?_
        · rintro i H4 hi ⟨tk, lf, kp, hd4, hl4, tl, ll, pm⟩
          refine ⟨rfl, tyes ?_⟩
          have p4 : PoolAt H4 d := by
            obtain ⟨cc, cells, q1, q2⟩ := hpB
            exact ⟨cc, cells, kp _ _ (ne_of_none q1 l0B) (c12 _ _ q1), kp _ _ (ne_of_none q2 l0B) (c12 _ _ q2)⟩
          refine ⟨_, rfl, .inl ⟨rfl, _, SqL.of hl4⟩, _, rfl, _, rfl, _, lf.length, rfl, .inl ⟨_, SqL.of hl4, (List.length_map ..).symm⟩, d, lf.length, rfl, p4, by omega, by omega, fun r hr3 => ?_⟩
          have er : lf[r]? = some lf[r] := List.getElem?_eq_getElem hr3
          refine ⟨l, _, (r : Int), r, nV lf[r], rfl, rfl, hl4, by omega, by omega, ?_, by rw [List.getElem?_map, er]; rfl, ?_⟩
          · unfold seqIndex?
            rw [List.length_map]
            simp
            omega
          rw [erase_map]
          refine ⟨tk.map nV, by rw [upd_ne nDl]; exact hd4, by rw [List.length_map]; exact Nat.lt_of_le_of_lt (show tk.length ≤ 200 by omega) (by decide), tk ++ [lf[r]], lf.eraseIdx r, fun b o nb e => ?_, by rw [upd_same, List.map_append]; rfl, by rw [upd_ne nDl.symm, upd_same], by rw [List.length_append, tl]; rfl, by rw [List.length_eraseIdx, if_pos hr3]; omega, take_perm pm er⟩
          rw [upd_ne (ne_of_none e hD), upd_ne nb]
          exact kp b o nb e
        obtain ⟨tk, lf, kp, hd4, hl4, tl, ll, pm⟩ := hE
        have lf0 : lf = [] := List.eq_nil_of_length_eq_zero (by omega)
        rw [lf0, List.append_nil] at pm
        have OR := Ordr.of M.pos pm
        have R := OR.renum
        have olen := OR.len
        have sBE : Same H3 HE := fun b o e => kp b o (ne_of_none e l0B) (c12 _ _ e)
        refine ⟨zl, D, _, _, rfl, rfl, kp _ _ nzl hz2, hd4, by rw [List.length_map]; exact Nat.le_trans (show 1 + tk.length ≤ 201 by omega) (by decide), fun ol hol => ?_⟩
        have eol : [V.int 0] ++ tk.map nV = (0 :: tk).map nV := rfl
        rw [eol]
        generalize 0 :: tk = ord at OR R olen ⊢
        have c3 := same_upd (o := .lst (ord.map nV)) hol
        have ho3 : (upd HE ol (.lst (ord.map nV))) ol = some (.lst (ord.map nV)) := upd_same
        generalize upd HE ol (.lst (ord.map nV)) = HF at c3 ho3 ⊢
        have sBF := sBE.trans c3
        refine ⟨_, rfl, _, J.length, rfl, lenB HF sBF, _, rfl, by omega, by omega, fun D2 hD2 => ?_⟩
        refine lc_range (lo := 0) (n := J.length) (LcP HF D2 (fun i acc _ => acc = ((List.range i).map fun u => nV (pA ord u)))) (LcP.zero hD2 rfl) ?_ fun HG hG => ?_
        · rintro u H4 hu ⟨acc, s4, hda, hle, e⟩
          rw [show (0 : Int) + (u : Int) = (u : Int) from Int.zero_add _]
          refine ⟨rfl, tyes ?_⟩
          have pl := OR.pl hu
          refine ⟨_, rfl, .inl ⟨rfl, _, SqL.of (s4 _ _ ho3)⟩, _, rfl, ol, ord.map nV, nV u, pA ord u, nV u, rfl, rfl, SqL.of (s4 _ _ ho3), rfl, ?_, ?_, ?_, ?_, ?_⟩
          · exact List.all_eq_true.mpr fun x hx => by obtain ⟨y, _, rfl⟩ := List.mem_map.mp hx; rfl
          · rw [List.getElem?_map, oA_at pl, R.op u hu]
            rfl
          · exact beq_self_eq_true _
          · intro m z hm hz
            obtain ⟨y, hy, rfl⟩ := nV_at hz
            have := OR.first hu hm hy
            show ((y : Int) == (u : Int)) = false
            rw [beq_eq_false_iff_ne]
            omega
          · refine LcP.put hD2 s4 hda hle (Nat.lt_of_lt_of_le hu (Nat.le_trans (show J.length ≤ 200 by omega) (by decide))) (Same.refl _) ?_
            rw [e, List.range_succ, List.map_append]
            rfl
        obtain ⟨acc, s3, hpl, _, e⟩ := hG
        have e2 : acc = ((List.range J.length).map (pA ord)).map nV := by rw [e, List.map_map]; rfl
        rw [e2] at hpl
        have ho4 := s3 _ _ ho3
        have sBG := sBF.trans s3
        have plAt : ∀ u, u < J.length → ((List.range J.length).map (pA ord))[u]? = some (pA ord u) := fun u hu => by
          rw [List.getElem?_map, List.getElem?_range hu]
          rfl
        refine ⟨_, rfl, ol, rfl, ⟨_, SqL.of ho4⟩, fun D3 hD3 => ?_⟩
        refine lc_it walk_list (LcP HG D3 (fun i acc H' => ∃ bs : List Addr, acc = bs.map V.ref ∧ Paired (fun b (r : List Nat) => b ≠ D3 ∧ H' b = some (.tup (r.map nV))) bs ((tab J.length (rnF J (oA ord) (pA ord))).take i))) (LcP.zero hD3 ⟨[], rfl, .nil⟩) (fun i H4 _ ⟨_, s1, _⟩ => SqL.of (s1 _ _ ho4)) ?_ fun HX hX => ?_
        · rintro i x H4 _ hi ⟨acc, s4, hda, hle, bs, rfl, hps⟩ ⟨rfl, hx⟩
          obtain ⟨u, hu, rfl⟩ := nV_at hx
          have hiJ : i < J.length := by rw [← olen]; exact (List.getElem?_eq_some_iff.mp hu).1
          have eu : u = oA ord i := by
            rw [oA_at (by omega)] at hu
            exact (Option.some.inj hu).symm
          have uJ : u < J.length := by rw [eu]; exact R.o i hiJ
          refine ⟨rfl, tyes ?_⟩
          refine ⟨_, rfl, ol, rfl, ⟨_, SqL.of (s4 _ _ ho4)⟩, fun D4 hD4 => ?_⟩
          have ho5 := s4 _ _ ho4
          refine lc_it walk_list (LcP _ D4 (fun j acc _ => acc = ((List.range j).map fun j => nV (rnF J (oA ord) (pA ord) i j)))) (LcP.zero hD4 rfl) (fun j H5 _ ⟨_, s1, _⟩ => SqL.of (s1 _ _ ho5)) ?_ fun HY hY => ?_
          · rintro j x H5 _ hj ⟨acc, s5, hda5, hle5, e5⟩ ⟨rfl, hx⟩
            obtain ⟨v, hv, rfl⟩ := nV_at hx
            have hjJ : j < J.length := by rw [← olen]; exact (List.getElem?_eq_some_iff.mp hv).1
            have ev : v = oA ord j := by
              rw [oA_at (by omega)] at hv
              exact (Option.some.inj hv).symm
            have vJ : v < J.length := by rw [ev]; exact R.o j hjJ
            refine ⟨rfl, tyes ?_⟩
            obtain ⟨xs, ys, b, q1, q2, q3, q4⟩ := tbB _ (sBG.trans (s4.trans s5)) u v uJ vJ
            refine ⟨_, rfl, _, rfl, _, rfl, _, _, _, _, rfl, rfl, q1, q2, _, rfl, _, _, _, _, rfl, rfl, q3, q4, D2, _, _, nV (pA ord (jn J u v)), rfl, rfl, SqL.of ((s4.trans s5) _ _ hpl), at_nV (plAt _ (M.lt u v uJ vJ)), ?_⟩
            refine LcP.put hD4 s5 hda5 hle5 (Nat.lt_of_lt_of_le hjJ (Nat.le_trans (show J.length ≤ 200 by omega) (by decide))) (Same.refl _) ?_
            rw [e5, range_snoc, eu, ev]
            rfl
          obtain ⟨acc5, s5, hda5, _, e5⟩ := hY
          rw [List.length_map, olen] at e5
          refine ⟨D4, _, rfl, .inl ⟨SqL.of hda5, fun tp htp => ?_⟩⟩
          have t6 := same_upd (o := .tup acc5) htp
          have nt : tp ≠ D3 := (ne_of_none (s5 _ _ hda) htp).symm
          refine LcP.put hD3 s4 hda hle (Nat.lt_of_lt_of_le hiJ (Nat.le_trans (show J.length ≤ 200 by omega) (by decide))) (s5.trans t6) ⟨bs ++ [tp], by rw [List.map_append]; rfl, ?_⟩
          rw [tab_take hiJ]
          refine pairedSnoc (Paired.mapP hps fun c r ⟨q1, q2⟩ => ⟨q1, by rw [upd_ne q1]; exact (s5.trans t6) _ _ q2⟩) ⟨nt, ?_⟩
          rw [upd_ne nt, upd_same, e5, List.map_map]
          rfl
        obtain ⟨acc, sX, hdX, _, bs, rfl, hps⟩ := hX
        rw [List.length_map, olen, List.take_of_length_le (by rw [tab_len]; exact Nat.le_refl _)] at hps
        refine ⟨D3, _, rfl, .inl ⟨SqL.of hdX, fun rt hrt => ?_⟩⟩
        have cX := same_upd (o := .tup (bs.map V.ref)) hrt
        have tG : TblG (upd HX rt (.tup (bs.map V.ref))) rt (tab J.length (rnF J (oA ord) (pA ord))) := ⟨bs, upd_same, Paired.mapP hps fun _ _ q => cX _ _ q.2⟩
        have sBX := sBG.trans (sX.trans cX)
        exact q _ rt _ (sB0.trans sBX) tG (renum_mon M R) (by rw [tab_len]; exact ln)
      · rw [decide_eq_false c1]
        refine iteF ?_
        generalize hJ : tab n1 (plF r1 n1 a1) = J at tb1' M1
        have ln : J.length ≤ 12 := by rw [← hJ, tab_len]; omega
        have M := M1
        have sB0 := s1.trans s2
        have hpB := hp2
        have lenB : ∀ H', Same H2 H' → LenV K (.ref p1) H' J.length := fun H' e => (tb1'.same e).len
        have tbB : ∀ H', Same H2 H' → ∀ u v, u < J.length → v < J.length → ∃ (xs ys : List V) (b : Addr), SqL K H' p1 xs ∧ atI xs (u : Int) = some (.ref b) ∧ SqL K H' b ys ∧ atI ys (v : Int) = some (nV (jn J u v)) := fun H' e u v hu hv => ((tb1'.same e).t (K := K)).at2 M hu hv
        refine ⟨_, rfl, _, J.length, rfl, (lenB H2 (Same.refl _)), _, _, rfl, rfl, RgOk.of_le (by omega) (by omega) (by omega) (by omega), fun l hl => ?_⟩
        rw [rg1 M.pos]
        have c1 := same_upd (o := .lst ((List.range' 1 (J.length - 1)).map nV)) hl
        have hl1 : (upd H2 l (.lst ((List.range' 1 (J.length - 1)).map nV))) l = some (.lst ((List.range' 1 (J.length - 1)).map nV)) := upd_same
        generalize upd H2 l (.lst ((List.range' 1 (J.length - 1)).map nV)) = HC at c1 hl1 ⊢
        refine ⟨Nat.le_of_ble_eq_true rfl, fun zl hzl => ?_⟩
        have c2 := same_upd (o := .lst [V.int 0]) hzl
        have hz2 : (upd HC zl (.lst [V.int 0])) zl = some (.lst [V.int 0]) := upd_same
        have hl2 := c2 _ _ hl1
        have nzl : zl ≠ l := (ne_of_none hl1 hzl).symm
        generalize upd HC zl (.lst [V.int 0]) = HD at c2 hz2 hl2 ⊢
        have c12 := c1.trans c2
        refine ⟨_, rfl, _, J.length, rfl, lenB HD c12, _, _, rfl, rfl, _, rfl, by omega, by omega, fun D hD => ?_⟩
        have nDl : D ≠ l := (ne_of_none hl2 hD).symm
        have nDz : D ≠ zl := (ne_of_none hz2 hD).symm
        have l0B : H2 l = none := hl
        have cnt : ((J.length : Int) - 1).toNat = J.length - 1 := by omega
        rw [cnt]
        refine lc_range (lo := 0) (n := J.length - 1) (fun i H' => ∃ tk lf : List Nat, (∀ b o, b ≠ l → HD b = some o → H' b = some o) ∧ H' D = some (.lst (tk.map nV)) ∧ H' l = some (.lst (lf.map nV)) ∧ tk.length = i ∧ lf.length = J.length - 1 - i ∧ (tk ++ lf).Perm (List.range' 1 (J.length - 1))) ⟨[], List.range' 1 (J.length - 1), fun b o _ e => same_upd hD _ _ e, upd_same, by rw [upd_ne nDl.symm]; exact hl2, rfl, by rw [List.length_range']; rfl, List.Perm.refl _⟩ ?_ fun HE hE => ?_
        · rintro i H4 hi ⟨tk, lf, kp, hd4, hl4, tl, ll, pm⟩
          refine ⟨rfl, tyes ?_⟩
          have p4 : PoolAt H4 d := by
            obtain ⟨cc, cells, q1, q2⟩ := hpB
            exact ⟨cc, cells, kp _ _ (ne_of_none q1 l0B) (c12 _ _ q1), kp _ _ (ne_of_none q2 l0B) (c12 _ _ q2)⟩
          refine ⟨_, rfl, .inl ⟨rfl, _, SqL.of hl4⟩, _, rfl, _, rfl, _, lf.length, rfl, .inl ⟨_, SqL.of hl4, (List.length_map ..).symm⟩, d, lf.length, rfl, p4, by omega, by omega, fun r hr3 => ?_⟩
          have er : lf[r]? = some lf[r] := List.getElem?_eq_getElem hr3
          refine ⟨l, _, (r : Int), r, nV lf[r], rfl, rfl, hl4, by omega, by omega, ?_, by rw [List.getElem?_map, er]; rfl, ?_⟩
          · unfold seqIndex?
            rw [List.length_map]
            simp
            omega
          rw [erase_map]
          refine ⟨tk.map nV, by rw [upd_ne nDl]; exact hd4, by rw [List.length_map]; exact Nat.lt_of_le_of_lt (show tk.length ≤ 200 by omega) (by decide), tk ++ [lf[r]], lf.eraseIdx r, fun b o nb e => ?_, by rw [upd_same, List.map_append]; rfl, by rw [upd_ne nDl.symm, upd_same], by rw [List.length_append, tl]; rfl, by rw [List.length_eraseIdx, if_pos hr3]; omega, take_perm pm er⟩
          rw [upd_ne (ne_of_none e hD), upd_ne nb]
          exact kp b o nb e
        obtain ⟨tk, lf, kp, hd4, hl4, tl, ll, pm⟩ := hE
        have lf0 : lf = [] := List.eq_nil_of_length_eq_zero (by omega)
        rw [lf0, List.append_nil] at pm
        have OR := Ordr.of M.pos pm
        have R := OR.renum
        have olen := OR.len
        have sBE : Same H2 HE := fun b o e => kp b o (ne_of_none e l0B) (c12 _ _ e)
        refine ⟨zl, D, _, _, rfl, rfl, kp _ _ nzl hz2, hd4, by rw [List.length_map]; exact Nat.le_trans (show 1 + tk.length ≤ 201 by omega) (by decide), fun ol hol => ?_⟩
        have eol : [V.int 0] ++ tk.map nV = (0 :: tk).map nV := rfl
        rw [eol]
        generalize 0 :: tk = ord at OR R olen ⊢
        have c3 := same_upd (o := .lst (ord.map nV)) hol
        have ho3 : (upd HE ol (.lst (ord.map nV))) ol = some (.lst (ord.map nV)) := upd_same
        generalize upd HE ol (.lst (ord.map nV)) = HF at c3 ho3 ⊢
        have sBF := sBE.trans c3
        refine ⟨_, rfl, _, J.length, rfl, lenB HF sBF, _, rfl, by omega, by omega, fun D2 hD2 => ?_⟩
        refine lc_range (lo := 0) (n := J.length) (LcP HF D2 (fun i acc _ => acc = ((List.range i).map fun u => nV (pA ord u)))) (LcP.zero hD2 rfl) ?_ fun HG hG => ?_
        · rintro u H4 hu ⟨acc, s4, hda, hle, e⟩
          rw [show (0 : Int) + (u : Int) = (u : Int) from Int.zero_add _]
          refine ⟨rfl, tyes ?_⟩
          have pl := OR.pl hu
          refine ⟨_, rfl, .inl ⟨rfl, _, SqL.of (s4 _ _ ho3)⟩, _, rfl, ol, ord.map nV, nV u, pA ord u, nV u, rfl, rfl, SqL.of (s4 _ _ ho3), rfl, ?_, ?_, ?_, ?_, ?_⟩
          · exact List.all_eq_true.mpr fun x hx => by obtain ⟨y, _, rfl⟩ := List.mem_map.mp hx; rfl
          · rw [List.getElem?_map, oA_at pl, R.op u hu]
            rfl
          · exact beq_self_eq_true _
          · intro m z hm hz
            obtain ⟨y, hy, rfl⟩ := nV_at hz
            have := OR.first hu hm hy
            show ((y : Int) == (u : Int)) = false
            rw [beq_eq_false_iff_ne]
            omega
          · refine LcP.put hD2 s4 hda hle (Nat.lt_of_lt_of_le hu (Nat.le_trans (show J.length ≤ 200 by omega) (by decide))) (Same.refl _) ?_
            rw [e, List.range_succ, List.map_append]
            rfl
        obtain ⟨acc, s3, hpl, _, e⟩ := hG
        have e2 : acc = ((List.range J.length).map (pA ord)).map nV := by rw [e, List.map_map]; rfl
        rw [e2] at hpl
        have ho4 := s3 _ _ ho3
        have sBG := sBF.trans s3
        have plAt : ∀ u, u < J.length → ((List.range J.length).map (pA ord))[u]? = some (pA ord u) := fun u hu => by
          rw [List.getElem?_map, List.getElem?_range hu]
          rfl
        refine ⟨_, rfl, ol, rfl, ⟨_, SqL.of ho4⟩, fun D3 hD3 => ?_⟩
        refine lc_it walk_list (LcP HG D3 (fun i acc H' => ∃ bs : List Addr, acc = bs.map V.ref ∧ Paired (fun b (r : List Nat) => b ≠ D3 ∧ H' b = some (.tup (r.map nV))) bs ((tab J.length (rnF J (oA ord) (pA ord))).take i))) (LcP.zero hD3 ⟨[], rfl, .nil⟩) (fun i H4 _ ⟨_, s1, _⟩ => SqL.of (s1 _ _ ho4)) ?_ fun HX hX => ?_
        · rintro i x H4 _ hi ⟨acc, s4, hda, hle, bs, rfl, hps⟩ ⟨rfl, hx⟩
          obtain ⟨u, hu, rfl⟩ := nV_at hx
          have hiJ : i < J.length := by rw [← olen]; exact (List.getElem?_eq_some_iff.mp hu).1
          have eu : u = oA ord i := by
            rw [oA_at (by omega)] at hu
            exact (Option.some.inj hu).symm
          have uJ : u < J.length := by rw [eu]; exact R.o i hiJ
          refine ⟨rfl, tyes ?_⟩
          refine ⟨_, rfl, ol, rfl, ⟨_, SqL.of (s4 _ _ ho4)⟩, fun D4 hD4 => ?_⟩
          have ho5 := s4 _ _ ho4
          refine lc_it walk_list (LcP _ D4 (fun j acc _ => acc = ((List.range j).map fun j => nV (rnF J (oA ord) (pA ord) i j)))) (LcP.zero hD4 rfl) (fun j H5 _ ⟨_, s1, _⟩ => SqL.of (s1 _ _ ho5)) ?_ fun HY hY => ?_
          · rintro j x H5 _ hj ⟨acc, s5, hda5, hle5, e5⟩ ⟨rfl, hx⟩
            obtain ⟨v, hv, rfl⟩ := nV_at hx
            have hjJ : j < J.length := by rw [← olen]; exact (List.getElem?_eq_some_iff.mp hv).1
            have ev : v = oA ord j := by
              rw [oA_at (by omega)] at hv
              exact (Option.some.inj hv).symm
            have vJ : v < J.length := by rw [ev]; exact R.o j hjJ
            refine ⟨rfl, tyes ?_⟩
            obtain ⟨xs, ys, b, q1, q2, q3, q4⟩ := tbB _ (sBG.trans (s4.trans s5)) u v uJ vJ
            refine ⟨_, rfl, _, rfl, _, rfl, _, _, _, _, rfl, rfl, q1, q2, _, rfl, _, _, _, _, rfl, rfl, q3, q4, D2, _, _, nV (pA ord (jn J u v)), rfl, rfl, SqL.of ((s4.trans s5) _ _ hpl), at_nV (plAt _ (M.lt u v uJ vJ)), ?_⟩
            refine LcP.put hD4 s5 hda5 hle5 (Nat.lt_of_lt_of_le hjJ (Nat.le_trans (show J.length ≤ 200 by omega) (by decide))) (Same.refl _) ?_
            rw [e5, range_snoc, eu, ev]
            rfl
          obtain ⟨acc5, s5, hda5, _, e5⟩ := hY
          rw [List.length_map, olen] at e5
          refine ⟨D4, _, rfl, .inl ⟨SqL.of hda5, fun tp htp => ?_⟩⟩
          have t6 := same_upd (o := .tup acc5) htp
          have nt : tp ≠ D3 := (ne_of_none (s5 _ _ hda) htp).symm
          refine LcP.put hD3 s4 hda hle (Nat.lt_of_lt_of_le hiJ (Nat.le_trans (show J.length ≤ 200 by omega) (by decide))) (s5.trans t6) ⟨bs ++ [tp], by rw [List.map_append]; rfl, ?_⟩
          rw [tab_take hiJ]
          refine pairedSnoc (Paired.mapP hps fun c r ⟨q1, q2⟩ => ⟨q1, by rw [upd_ne q1]; exact (s5.trans t6) _ _ q2⟩) ⟨nt, ?_⟩
          rw [upd_ne nt, upd_same, e5, List.map_map]
          rfl
        obtain ⟨acc, sX, hdX, _, bs, rfl, hps⟩ := hX
        rw [List.length_map, olen, List.take_of_length_le (by rw [tab_len]; exact Nat.le_refl _)] at hps
        refine ⟨D3, _, rfl, .inl ⟨SqL.of hdX, fun rt hrt => ?_⟩⟩
        have cX := same_upd (o := .tup (bs.map V.ref)) hrt
        have tG : TblG (upd HX rt (.tup (bs.map V.ref))) rt (tab J.length (rnF J (oA ord) (pA ord))) := ⟨bs, upd_same, Paired.mapP hps fun _ _ q => cX _ _ q.2⟩
        have sBX := sBG.trans (sX.trans cX)
        exact q _ rt _ (sB0.trans sBX) tG (renum_mon M R) (by rw [tab_len]; exact ln)
    · rw [show ((r2 : Int) == 0) = false from beq_eq_false_iff_ne.mpr c0]
      refine iteF ?_
      generalize hJ : tab n1 (plF r1 n1 a1) = J at tb1 M1
      have ln : J.length ≤ 12 := by rw [← hJ, tab_len]; omega
      have M := M1
      have sB0 := s1
      have hpB := hp1
      have lenB : ∀ H', Same H1 H' → LenV K (.ref p1) H' J.length := fun H' e => (tb1.same e).len
      have tbB : ∀ H', Same H1 H' → ∀ u v, u < J.length → v < J.length → ∃ (xs ys : List V) (b : Addr), SqL K H' p1 xs ∧ atI xs (u : Int) = some (.ref b) ∧ SqL K H' b ys ∧ atI ys (v : Int) = some (nV (jn J u v)) := fun H' e u v hu hv => ((tb1.same e).t (K := K)).at2 M hu hv
      refine ⟨_, rfl, _, J.length, rfl, (lenB H1 (Same.refl _)), _, _, rfl, rfl, RgOk.of_le (by omega) (by omega) (by omega) (by omega), fun l hl => ?_⟩
      rw [rg1 M.pos]
      have c1 := same_upd (o := .lst ((List.range' 1 (J.length - 1)).map nV)) hl
      have hl1 : (upd H1 l (.lst ((List.range' 1 (J.length - 1)).map nV))) l = some (.lst ((List.range' 1 (J.length - 1)).map nV)) := upd_same
      generalize upd H1 l (.lst ((List.range' 1 (J.length - 1)).map nV)) = HC at c1 hl1 ⊢
      refine ⟨Nat.le_of_ble_eq_true rfl, fun zl hzl => ?_⟩
      have c2 := same_upd (o := .lst [V.int 0]) hzl
      have hz2 : (upd HC zl (.lst [V.int 0])) zl = some (.lst [V.int 0]) := upd_same
      have hl2 := c2 _ _ hl1
      have nzl : zl ≠ l := (ne_of_none hl1 hzl).symm
      generalize upd HC zl (.lst [V.int 0]) = HD at c2 hz2 hl2 ⊢
      have c12 := c1.trans c2
      refine ⟨_, rfl, _, J.length, rfl, lenB HD c12, _, _, rfl, rfl, _, rfl, by omega, by omega, fun D hD => ?_⟩
      have nDl : D ≠ l := (ne_of_none hl2 hD).symm
      have nDz : D ≠ zl := (ne_of_none hz2 hD).symm
      have l0B : H1 l = none := hl
      have cnt : ((J.length : Int) - 1).toNat = J.length - 1 := by omega
      rw [cnt]
      refine lc_range (lo := 0) (n := J.length - 1) (fun i H' => ∃ tk lf : List Nat, (∀ b o, b ≠ l → HD b = some o → H' b = some o) ∧ H' D = some (.lst (tk.map nV)) ∧ H' l = some (.lst (lf.map nV)) ∧ tk.length = i ∧ lf.length = J.length - 1 - i ∧ (tk ++ lf).Perm (List.range' 1 (J.length - 1))) ⟨[], List.range' 1 (J.length - 1), fun b o _ e => same_upd hD _ _ e, upd_same, by rw [upd_ne nDl.symm]; exact hl2, rfl, by rw [List.length_range']; rfl, List.Perm.refl _⟩ ?_ fun HE hE => ?_
      · rintro i H4 hi ⟨tk, lf, kp, hd4, hl4, tl, ll, pm⟩
        refine ⟨rfl, tyes ?_⟩
        have p4 : PoolAt H4 d := by
          obtain ⟨cc, cells, q1, q2⟩ := hpB
          exact ⟨cc, cells, kp _ _ (ne_of_none q1 l0B) (c12 _ _ q1), kp _ _ (ne_of_none q2 l0B) (c12 _ _ q2)⟩
        refine ⟨_, rfl, .inl ⟨rfl, _, SqL.of hl4⟩, _, rfl, _, rfl, _, lf.length, rfl, .inl ⟨_, SqL.of hl4, (List.length_map ..).symm⟩, d, lf.length, rfl, p4, by omega, by omega, fun r hr3 => ?_⟩
        have er : lf[r]? = some lf[r] := List.getElem?_eq_getElem hr3
        refine ⟨l, _, (r : Int), r, nV lf[r], rfl, rfl, hl4, by omega, by omega, ?_, by rw [List.getElem?_map, er]; rfl, ?_⟩
        · unfold seqIndex?
          rw [List.length_map]
          simp
          omega
        rw [erase_map]
        refine ⟨tk.map nV, by rw [upd_ne nDl]; exact hd4, by rw [List.length_map]; exact Nat.lt_of_le_of_lt (show tk.length ≤ 200 by omega) (by decide), tk ++ [lf[r]], lf.eraseIdx r, fun b o nb e => ?_, by rw [upd_same, List.map_append]; rfl, by rw [upd_ne nDl.symm, upd_same], by rw [List.length_append, tl]; rfl, by rw [List.length_eraseIdx, if_pos hr3]; omega, take_perm pm er⟩
        rw [upd_ne (ne_of_none e hD), upd_ne nb]
        exact kp b o nb e
      obtain ⟨tk, lf, kp, hd4, hl4, tl, ll, pm⟩ := hE
      have lf0 : lf = [] := List.eq_nil_of_length_eq_zero (by omega)
      rw [lf0, List.append_nil] at pm
      have OR := Ordr.of M.pos pm
      have R := OR.renum
      have olen := OR.len
      have sBE : Same H1 HE := fun b o e => kp b o (ne_of_none e l0B) (c12 _ _ e)
      refine ⟨zl, D, _, _, rfl, rfl, kp _ _ nzl hz2, hd4, by rw [List.length_map]; exact Nat.le_trans (show 1 + tk.length ≤ 201 by omega) (by decide), fun ol hol => ?_⟩
      have eol : [V.int 0] ++ tk.map nV = (0 :: tk).map nV := rfl
      rw [eol]
      generalize 0 :: tk = ord at OR R olen ⊢
      have c3 := same_upd (o := .lst (ord.map nV)) hol
      have ho3 : (upd HE ol (.lst (ord.map nV))) ol = some (.lst (ord.map nV)) := upd_same
      generalize upd HE ol (.lst (ord.map nV)) = HF at c3 ho3 ⊢
      have sBF := sBE.trans c3
      refine ⟨_, rfl, _, J.length, rfl, lenB HF sBF, _, rfl, by omega, by omega, fun D2 hD2 => ?_⟩
      refine lc_range (lo := 0) (n := J.length) (LcP HF D2 (fun i acc _ => acc = ((List.range i).map fun u => nV (pA ord u)))) (LcP.zero hD2 rfl) ?_ fun HG hG => ?_
      · rintro u H4 hu ⟨acc, s4, hda, hle, e⟩
        rw [show (0 : Int) + (u : Int) = (u : Int) from Int.zero_add _]
        refine ⟨rfl, tyes ?_⟩
        have pl := OR.pl hu
        refine ⟨_, rfl, .inl ⟨rfl, _, SqL.of (s4 _ _ ho3)⟩, _, rfl, ol, ord.map nV, nV u, pA ord u, nV u, rfl, rfl, SqL.of (s4 _ _ ho3), rfl, ?_, ?_, ?_, ?_, ?_⟩
        · exact List.all_eq_true.mpr fun x hx => by obtain ⟨y, _, rfl⟩ := List.mem_map.mp hx; rfl
        · rw [List.getElem?_map, oA_at pl, R.op u hu]
          rfl
        · exact beq_self_eq_true _
        · intro m z hm hz
          obtain ⟨y, hy, rfl⟩ := nV_at hz
          have := OR.first hu hm hy
          show ((y : Int) == (u : Int)) = false
          rw [beq_eq_false_iff_ne]
          omega
        · refine LcP.put hD2 s4 hda hle (Nat.lt_of_lt_of_le hu (Nat.le_trans (show J.length ≤ 200 by omega) (by decide))) (Same.refl _) ?_
          rw [e, List.range_succ, List.map_append]
          rfl
      obtain ⟨acc, s3, hpl, _, e⟩ := hG
      have e2 : acc = ((List.range J.length).map (pA ord)).map nV := by rw [e, List.map_map]; rfl
      rw [e2] at hpl
      have ho4 := s3 _ _ ho3
      have sBG := sBF.trans s3
      have plAt : ∀ u, u < J.length → ((List.range J.length).map (pA ord))[u]? = some (pA ord u) := fun u hu => by
        rw [List.getElem?_map, List.getElem?_range hu]
        rfl
      refine ⟨_, rfl, ol, rfl, ⟨_, SqL.of ho4⟩, fun D3 hD3 => ?_⟩
      refine lc_it walk_list (LcP HG D3 (fun i acc H' => ∃ bs : List Addr, acc = bs.map V.ref ∧ Paired (fun b (r : List Nat) => b ≠ D3 ∧ H' b = some (.tup (r.map nV))) bs ((tab J.length (rnF J (oA ord) (pA ord))).take i))) (LcP.zero hD3 ⟨[], rfl, .nil⟩) (fun i H4 _ ⟨_, s1, _⟩ => SqL.of (s1 _ _ ho4)) ?_ fun HX hX => ?_
      · rintro i x H4 _ hi ⟨acc, s4, hda, hle, bs, rfl, hps⟩ ⟨rfl, hx⟩
        obtain ⟨u, hu, rfl⟩ := nV_at hx
        have hiJ : i < J.length := by rw [← olen]; exact (List.getElem?_eq_some_iff.mp hu).1
        have eu : u = oA ord i := by
          rw [oA_at (by omega)] at hu
          exact (Option.some.inj hu).symm
        have uJ : u < J.length := by rw [eu]; exact R.o i hiJ
        refine ⟨rfl, tyes ?_⟩
        refine ⟨_, rfl, ol, rfl, ⟨_, SqL.of (s4 _ _ ho4)⟩, fun D4 hD4 => ?_⟩
        have ho5 := s4 _ _ ho4
        refine lc_it walk_list (LcP _ D4 (fun j acc _ => acc = ((List.range j).map fun j => nV (rnF J (oA ord) (pA ord) i j)))) (LcP.zero hD4 rfl) (fun j H5 _ ⟨_, s1, _⟩ => SqL.of (s1 _ _ ho5)) ?_ fun HY hY => ?_
        · rintro j x H5 _ hj ⟨acc, s5, hda5, hle5, e5⟩ ⟨rfl, hx⟩
          obtain ⟨v, hv, rfl⟩ := nV_at hx
          have hjJ : j < J.length := by rw [← olen]; exact (List.getElem?_eq_some_iff.mp hv).1
          have ev : v = oA ord j := by
            rw [oA_at (by omega)] at hv
            exact (Option.some.inj hv).symm
          have vJ : v < J.length := by rw [ev]; exact R.o j hjJ
          refine ⟨rfl, tyes ?_⟩
          obtain ⟨xs, ys, b, q1, q2, q3, q4⟩ := tbB _ (sBG.trans (s4.trans s5)) u v uJ vJ
          refine ⟨_, rfl, _, rfl, _, rfl, _, _, _, _, rfl, rfl, q1, q2, _, rfl, _, _, _, _, rfl, rfl, q3, q4, D2, _, _, nV (pA ord (jn J u v)), rfl, rfl, SqL.of ((s4.trans s5) _ _ hpl), at_nV (plAt _ (M.lt u v uJ vJ)), ?_⟩
          refine LcP.put hD4 s5 hda5 hle5 (Nat.lt_of_lt_of_le hjJ (Nat.le_trans (show J.length ≤ 200 by omega) (by decide))) (Same.refl _) ?_
          rw [e5, range_snoc, eu, ev]
          rfl
        obtain ⟨acc5, s5, hda5, _, e5⟩ := hY
        rw [List.length_map, olen] at e5
        refine ⟨D4, _, rfl, .inl ⟨SqL.of hda5, fun tp htp => ?_⟩⟩
        have t6 := same_upd (o := .tup acc5) htp
        have nt : tp ≠ D3 := (ne_of_none (s5 _ _ hda) htp).symm
        refine LcP.put hD3 s4 hda hle (Nat.lt_of_lt_of_le hiJ (Nat.le_trans (show J.length ≤ 200 by omega) (by decide))) (s5.trans t6) ⟨bs ++ [tp], by rw [List.map_append]; rfl, ?_⟩
        rw [tab_take hiJ]
        refine pairedSnoc (Paired.mapP hps fun c r ⟨q1, q2⟩ => ⟨q1, by rw [upd_ne q1]; exact (s5.trans t6) _ _ q2⟩) ⟨nt, ?_⟩
        rw [upd_ne nt, upd_same, e5, List.map_map]
        rfl
      obtain ⟨acc, sX, hdX, _, bs, rfl, hps⟩ := hX
      rw [List.length_map, olen, List.take_of_length_le (by rw [tab_len]; exact Nat.le_refl _)] at hps
      refine ⟨D3, _, rfl, .inl ⟨SqL.of hdX, fun rt hrt => ?_⟩⟩
      have cX := same_upd (o := .tup (bs.map V.ref)) hrt
      have tG : TblG (upd HX rt (.tup (bs.map V.ref))) rt (tab J.length (rnF J (oA ord) (pA ord))) := ⟨bs, upd_same, Paired.mapP hps fun _ _ q => cX _ _ q.2⟩
      have sBX := sBG.trans (sX.trans cX)
      exact q _ rt _ (sB0.trans sBX) tG (renum_mon M R) (by rw [tab_len]; exact ln)
end
end UC
set_option Elab.async false
set_option linter.all false
set_option maxRecDepth 100000
set_option maxHeartbeats 8000000
/-! The law's multiples, closed sets. -/
namespace UC
open PySem PySem.Spec PyProof.Rows L2
theorem inV_N (x : Nat) : ∀ G : List Nat, inV (nV x) (G.map nV) = decide (x ∈ G)
  | [] => rfl
  | g :: G => by
    have ih := inV_N x G
    unfold inV at ih ⊢
    rw [List.map_cons, List.any_cons, ih]
    show (((g : Int) == (x : Int)) || decide (x ∈ G)) = decide (x ∈ g :: G)
    by_cases e : x = g
    · subst e
      simp
    · have e1 : ((g : Int) == (x : Int)) = false := beq_eq_false_iff_ne.mpr (by omega)
      rw [e1]
      simp [e]
theorem flat_N (G : List Nat) : (G.map nV).all flatV = true := List.all_eq_true.mpr fun x hx => by obtain ⟨y, _, rfl⟩ := List.mem_map.mp hx; rfl
/-- what several says: multiples of each stand -/
structure SevOk (J S L : List (List Nat)) (N : List Nat) : Prop where
  len : S.length = J.length
  at_ : ∀ v r, S[v]? = some r → r.length ≤ J.length ∧ (∀ x ∈ r, x < J.length) ∧ ∀ s ∈ N, ml J s v ∈ r
abbrev SevN (J S : List (List Nat)) (N : List Nat) : Prop := SevOk J S [] N
def ClN (J S : List (List Nat)) (G : List Nat) : Prop := ∀ u v, u < J.length → v < J.length → (∃ x ∈ S.getD v [], jn J u x ∈ G) → jn J u v ∈ G
section
variable {P : Program} {w : World} {K : PySem.W.Frag} {mg : Str → Option Value} {base : Heap}
/-- rows so far, of any lists -/
def ListsSo (H : Hp) (l : Addr) (F : List (List Nat)) (H' : Hp) : Prop := Same H H' ∧ ∃ bs : List Addr, H' l = some (.lst (bs.map V.ref)) ∧ Paired (fun b (r : List Nat) => b ≠ l ∧ H' b = some (.lst (r.map nV))) bs F
def sp_law_multiples (K : PySem.W.Frag) : Sp := fun vs H Q _ => ∃ (a g : Addr) (J : List (List Nat)) (N : List Nat), vs = [.ref a, .ref g] ∧ TblG H a J ∧ Mon J ∧ J.length ≤ 12 ∧ H g = some (.lst (N.map nV)) ∧ N ≠ [] ∧ (∀ s ∈ N, s ≤ 90) ∧
  ∀ (H' : Hp) (p : Addr) (S : List (List Nat)), Same H H' → TblH H' p S → SevN J S N → Q (.ref p) H'
theorem sc_law_multiples : FnScope ["_law_joining_here", "_law_numbers_here", "_law_got", "_law_v", "_law_here", "_law_some", "_law_number"] ["_law_joining_here", "_law_numbers_here"] (defScope s_law_multiples) := ⟨rfl, rfl, rfl, by decide +kernel, rfl, by decide +kernel, by decide +kernel⟩
theorem ok_law_multiples (T : Txt K mg) : Pr P w K mg base 1 "_law_multiples" ["_law_joining_here", "_law_numbers_here"] (sp_law_multiples K) := by
  refine T.d_law_multiples.pr sc_law_multiples (fun vs H Q E h => ?_) (fun _ _ _ _ _ _ us hl => match us, hl with | [_, _], _ => rfl) (fun f cdv A outer s H vs Q E hr h => ?_)
  · obtain ⟨a, g, J, N, rfl, _⟩ := h
    rfl
  · obtain ⟨a, g, J, N, rfl, hJ, M, hn, hg, hne, hle, q⟩ := h
    have hu := hu_of hr
    refine ⟨_, (pss_cons (ps_s 2 sc_law_multiples.nd (pe_lst pa_nil))
    (pss_cons (ps_for PassesOwn.never rfl (pi_range1 rfl T.b_range (pa_cons (pe_callB call_len rfl T.b_len (by decide +kernel) (pa_cons (pv 0) pa_nil)) pa_nil)) (pg_n 3 sc_law_multiples.nd)
      (pss_cons (ps_par (i := 4) (j := 5) rfl sc_law_multiples.nd rfl rfl (by decide) rfl rfl (pa_cons pe_int (pa_cons pe_dnewK pa_nil)) (by rfl))
      (pss_cons (ps_for PassesOwn.never rfl (pi_range1 rfl T.b_range (pa_cons (pe_op op_add (pe_callB (cr_max rfl) rfl T.b_max (by decide +kernel) (pa_cons (pv 1) pa_nil)) pe_int) pa_nil)) (pg_n 6 sc_law_multiples.nd)
        (pss_cons (ps_if (pt_cmpR (op_inK (K := K) rfl) (pv 6) (pv 1) (by with_unfolding_all rfl))
          (pss_one (ps_dput hu (pv 5) (pv 4) pe_bl rfl))
          pss_nil)
        (pss_one (ps_s 4 sc_law_multiples.nd (pe_ix ix_tup (pe_ix ix_tup (pv 0) (pv 4) (fun _ _ => rfl)) (pv 3) (fun _ _ => rfl))))))
      (pss_one (ps_expr (pe_bm PySem.F.plainAttrs_list PySem.F.slot_list_append PySem.F.type_list_append mt_append (pv 2) (pa_cons (pe_callB (cr_sortedDN rfl) rfl T.b_sorted (by decide +kernel) (pa_cons (pv 5) pa_nil)) pa_nil)))))))
    (pss_one (ps_ret (pv 2))))), ?_⟩
    simp only [st_c, st_n, st_0]
    have lenJ : ∀ H', Same H H' → LenV K (.ref a) H' J.length := fun H' e => by
      obtain ⟨bs, h1, h2⟩ := hJ.same e
      exact .inr ⟨_, SqT.of h1, by rw [List.length_map, pairedLen h2]⟩
    refine ⟨Nat.zero_le _, fun l hl => ?_⟩
    refine ⟨_, rfl, _, J.length, rfl, lenJ _ (same_upd hl), _, rfl, by omega, by omega, ?_⟩
    refine for_range (lo := 0) (n := J.length) (fun i σ H2 => ∃ v3 v4 v5 v6, ∃ S : List (List Nat), σ = [some (.ref a), some (.ref g), some (.ref l), v3, v4, v5, v6] ∧ ListsSo H l S H2 ∧ S.length = i ∧ ∀ v r, S[v]? = some r → r.length ≤ J.length ∧ (∀ x ∈ r, x < J.length) ∧ ∀ s ∈ N, ml J s v ∈ r) ⟨_, _, _, _, [], rfl, ⟨same_upd hl, [], upd_same, .nil⟩, rfl, fun v r h => by simp at h⟩ ?_ ?_
    · rintro v σ H2 hv ⟨v3, v4, v5, v6, S, rfl, ⟨s2, bs, hb, hps⟩, hS, hat⟩
      rw [show (0 : Int) + (v : Int) = (v : Int) from Int.zero_add _]
      intro d hd
      have hdH : H d = none := s2.free hd
      have ndl : d ≠ l := (ne_of_none hb hd).symm
      have t3 : Same H2 (upd H2 d (.dK [])) := same_upd hd
      have hd3 : (upd H2 d (.dK [])) d = some (.dK (kd [])) := upd_same
      refine ⟨_, _, rfl, ?_⟩
      generalize upd H2 d (.dK []) = H3 at t3 hd3 ⊢
      have s3 := s2.trans t3
      refine ⟨_, rfl, g, N.map (fun (x : Nat) => (x : Int)), rfl, SqL.of (by rw [mapV]; exact s3 _ _ hg), by rw [List.length_map]; exact List.length_pos_iff.mpr hne, fun m hm hmax => ?_⟩
      obtain ⟨mx, hmx, rfl⟩ := List.mem_map.mp hm
      have hmax2 : ∀ s ∈ N, s ≤ mx := fun s hs => by
        have := hmax (s : Int) (List.mem_map.mpr ⟨s, hs, rfl⟩)
        omega
      have mx90 := hle mx hmx
      refine ⟨_, _, rfl, rfl, _, rfl, by omega, by omega, ?_⟩
      have em : ((mx : Int) + 1).toNat = mx + 1 := by omega
      rw [em]
      refine for_range (lo := 0) (n := mx + 1) (fun i σ H4 => ∃ v6 ks, σ = [some (.ref a), some (.ref g), some (.ref l), some (nV v), some (nV (ml J i v)), some (.ref d), v6] ∧ SameX d H3 H4 ∧ H4 d = some (.dK (kd ks)) ∧ ks.Nodup ∧ (∀ x ∈ ks, x < J.length) ∧ ∀ s ∈ N, s < i → ml J s v ∈ ks) ⟨_, [], rfl, fun b o _ e => e, hd3, List.nodup_nil, fun x hx => (List.not_mem_nil hx).elim, fun s _ h => absurd h (Nat.not_lt_zero _)⟩ ?_ ?_
      · rintro i σ H4 hi ⟨v6, ks, rfl, sx4, hd4, nd, kl, kall⟩
        rw [show (0 : Int) + (i : Int) = (i : Int) from Int.zero_add _]
        have s4 : Same H H4 := fun b o e => sx4 b o (ne_of_none e hdH) (s3 _ _ e)
        have ml1 := M.ml_lt hv i
        obtain ⟨r, e1, e2⟩ := M.at_row ml1 hv
        have kz := nodup_len _ _ nd kl
        refine ⟨_, rfl, _, rfl, g, N.map nV, rfl, .inl (SqL.of (s4 _ _ hg)), rfl, flat_N N, _, rfl, ?_⟩
        rw [inV_N]
        by_cases hin : i ∈ N
        · rw [decide_eq_true hin]
          refine iteT ?_
          refine ⟨_, rfl, _, rfl, d, _, rfl, DPut.k (k := kn (ml J i v)) hd4 (by rw [kd_len]; exact Nat.lt_of_le_of_lt (show ks.length ≤ 12 by omega) (by decide)), ?_⟩
          rw [kd_put]
          have s5 : Same H (upd H4 d (.dK (kd (insN ks (ml J i v))))) := same_put hdH s4
          obtain ⟨xs, b, x1, x2, x3⟩ := (hJ.same s5).row e1
          refine ⟨_, rfl, _, rfl, _, _, _, _, rfl, rfl, SqT.of x1, x2, _, rfl, _, _, _, _, rfl, rfl, SqT.of x3, at_nV e2, ?_⟩
          refine ⟨_, insN ks (ml J i v), rfl, fun b o nb e => by rw [upd_ne nb]; exact sx4 b o nb e, upd_same, insN_nodup nd, fun x hx => (mem_insN.mp hx).elim (kl x) fun z => z ▸ ml1, fun s hs hlt => ?_⟩
          rcases Nat.lt_or_ge s i with z | z
          · exact mem_insN.mpr (.inl (kall s hs z))
          · have : s = i := by omega
            rw [this]
            exact mem_insN.mpr (.inr rfl)
        · rw [decide_eq_false hin]
          refine iteF ?_
          obtain ⟨xs, b, x1, x2, x3⟩ := (hJ.same s4).row e1
          refine ⟨_, rfl, _, rfl, _, _, _, _, rfl, rfl, SqT.of x1, x2, _, rfl, _, _, _, _, rfl, rfl, SqT.of x3, at_nV e2, ?_⟩
          refine ⟨_, ks, rfl, sx4, hd4, nd, kl, fun s hs hlt => kall s hs ?_⟩
          rcases Nat.lt_or_ge s i with z | z
          · exact z
          · have : s = i := by omega
            rw [this] at hs
            exact absurd hs hin
      · rintro σ H4 ⟨v6, ks, rfl, sx4, hd4, nd, kl, kall⟩
        have hb4 : H4 l = some (.lst (bs.map V.ref)) := sx4 _ _ ndl.symm (t3 _ _ hb)
        have kz := nodup_len _ _ nd kl
        refine ⟨_, rfl, .inl ⟨rfl, _, SqL.of hb4⟩, _, rfl, d, kd ks, ks.map (fun (x : Nat) => (x : Int)), rfl, .inl hd4, kd_fst ks, by rw [List.length_map]; omega, fun ys p hperm hsort hp => ?_⟩
        obtain ⟨hs, rfl, hl3, hm3⟩ := sorted_N hperm
        rw [mapV]
        have t5 : Same H4 (upd H4 p (.lst (hs.map nV))) := same_upd hp
        have npl : p ≠ l := (ne_of_none hb4 hp).symm
        refine ⟨l, _, _, rfl, rfl, t5 _ _ hb4, by rw [List.length_map]; exact Nat.lt_of_le_of_lt (show bs.length ≤ 12 by have := pairedLen hps; omega) (by decide), ?_⟩
        refine ⟨_, _, _, _, S ++ [hs], rfl, ⟨same_put hl fun b o e => t5 _ _ (sx4 b o (ne_of_none e hdH) (s3 _ _ e)), bs ++ [p], by rw [upd_same, List.map_append]; rfl, ?_⟩, by rw [List.length_append, hS]; rfl, fun u r hur => ?_⟩
        · refine pairedSnoc (Paired.mapP hps fun c r ⟨q1, q2⟩ => ⟨q1, ?_⟩) ⟨npl, by rw [upd_ne npl]; exact upd_same⟩
          rw [upd_ne q1]
          exact t5 _ _ (sx4 _ _ (ne_of_none q2 hd) (t3 _ _ q2))
        · rcases Nat.lt_or_ge u S.length with z | z
          · rw [List.getElem?_append_left z] at hur
            exact hat u r hur
          · rw [List.getElem?_append_right z] at hur
            have hu0 : u - S.length = 0 := by
              rcases Nat.eq_zero_or_pos (u - S.length) with y | y
              · exact y
              · rw [List.getElem?_eq_none (by simp; omega)] at hur
                cases hur
            rw [hu0] at hur
            have er : hs = r := by simpa using hur
            have ev : u = v := by omega
            subst er
            subst ev
            refine ⟨by omega, fun x hx => kl x ((hm3 x).mp hx), fun s hs2 => (hm3 _).mpr (kall s hs2 (by have := hmax2 s hs2; omega))⟩
    · rintro σ H2 ⟨v3, v4, v5, v6, S, rfl, ⟨s2, bs, hb, hps⟩, hS, hat⟩
      exact ⟨_, rfl, q H2 l S s2 ⟨bs, hb, Paired.mapP hps fun _ _ z => z.2⟩ ⟨hS, hat⟩⟩
end
end UC
set_option Elab.async false
set_option linter.all false
set_option maxRecDepth 100000
set_option maxHeartbeats 8000000
/-! The law's closed sets. -/
namespace UC
open PySem PySem.Spec PyProof.Rows L2
theorem nodup_full {n x : Nat} {ks : List Nat} (nd : ks.Nodup) (h : ∀ x ∈ ks, x < n) (l : n ≤ ks.length) (hx : x < n) : x ∈ ks := by
  refine (Classical.em (x ∈ ks)).resolve_right fun q => ?_
  have := nodup_len n (x :: ks) (List.nodup_cons.mpr ⟨q, nd⟩) fun y hy => (List.mem_cons.mp hy).elim (fun e => e ▸ hx) (h y)
  rw [List.length_cons] at this
  omega
theorem sev_at {J S : List (List Nat)} {N : List Nat} (h : SevN J S N) {v : Nat} (hv : v < J.length) : S[v]? = some (S.getD v []) ∧ (S.getD v []).length ≤ J.length ∧ ∀ x ∈ S.getD v [], x < J.length := by
  have e : S[v]? = some (S.getD v []) := by
    rw [List.getD_eq_getElem?_getD, List.getElem?_eq_getElem (by rw [h.len]; exact hv)]
    rfl
  exact ⟨e, (h.at_ v _ e).1, (h.at_ v _ e).2.1⟩
theorem asc_nodup {xs : List Nat} (h : Asc xs) : xs.Nodup := h.imp fun h => Nat.ne_of_lt h
theorem sort_up {hs G : List Nat} (hp : (hs.map fun (x : Nat) => (x : Int)).Perm (G.map fun (x : Nat) => (x : Int))) (hs2 : (hs.map fun (x : Nat) => (x : Int)).Pairwise (· ≤ ·)) (nd : G.Nodup) : Asc hs := by
  have n2 : (hs.map fun (x : Nat) => (x : Int)).Nodup := hp.nodup_iff.mpr (List.Pairwise.map _ (fun a b h e => h (by omega)) nd)
  rw [List.pairwise_map] at hs2
  unfold List.Nodup at n2
  rw [List.pairwise_map] at n2
  refine (hs2.and n2).imp fun {a b} h => ?_
  obtain ⟨h1, h2⟩ := h
  have : a ≠ b := fun e => h2 (by rw [e])
  omega
section
variable {P : Program} {w : World} {K : PySem.W.Frag} {mg : Str → Option Value} {base : Heap}
def sp_law_closed : Sp := fun vs H Q _ => ∃ (a sa o : Addr) (J S : List (List Nat)) (N B : List Nat), vs = [.ref a, .ref sa, .ref o] ∧ TblG H a J ∧ Mon J ∧ J.length ≤ 12 ∧ TblH H sa S ∧ SevN J S N ∧ H o = some (.lst (B.map nV)) ∧ (∀ x ∈ B, x < J.length) ∧ B.length ≤ 1000 ∧
  ∀ (H' : Hp) (p : Addr) (G : List Nat), Same H H' → H' p = some (.lst (G.map nV)) → Asc G → (∀ x ∈ G, x < J.length) → ClN J S G → (Asc B → ClN J S B → G = B) → Q (.ref p) H'
/-- between two turns of the inner loops -/
structure ClSt (J S : List (List Nat)) (G : List Nat) (done : Nat → Nat → Prop) (Mr : List Nat) : Prop where
  nd : Mr.Nodup
  lt : ∀ x ∈ Mr, x < J.length
  sub : ∀ x ∈ G, x ∈ Mr
  same : ClN J S G → Mr = G
  len : Mr.length = G.length → Mr = G
  all : ∀ u v, u < J.length → v < J.length → done u v → (∃ x ∈ S.getD v [], jn J u x ∈ G) → jn J u v ∈ Mr
theorem ClSt.put {J S : List (List Nat)} {G Mr : List Nat} {done : Nat → Nat → Prop} {u v : Nat} (h : ClSt J S G done Mr) (M : Mon J) (hu : u < J.length) (hv : v < J.length) (gl : G.length ≤ Mr.length) (new : jn J u v ∉ Mr) (ex : ∃ x ∈ S.getD v [], jn J u x ∈ G) :
    ClSt J S G (fun a b => done a b ∨ (a = u ∧ b = v)) (Mr ++ [jn J u v]) := by
  refine ⟨List.nodup_append.mpr ⟨h.nd, by simp, fun a ha b hb => by simp at hb; subst hb; exact fun e => new (e ▸ ha)⟩, fun x hx => ?_, fun x hx => List.mem_append_left _ (h.sub x hx), fun c => ?_, fun e => ?_, fun a b ha hb hd hx => ?_⟩
  · rcases List.mem_append.mp hx with q | q
    · exact h.lt x q
    · rw [List.mem_singleton.mp q]
      exact M.lt u v hu hv
  · exact absurd (h.sub _ (c u v hu hv ex)) new
  · rw [List.length_append, List.length_singleton] at e
    omega
  · rcases hd with hd | ⟨rfl, rfl⟩
    · exact List.mem_append_left _ (h.all a b ha hb hd hx)
    · simp
theorem ClSt.skip {J S : List (List Nat)} {G Mr : List Nat} {done : Nat → Nat → Prop} {u v : Nat} (h : ClSt J S G done Mr) (no : jn J u v ∈ Mr ∨ ¬ ∃ x ∈ S.getD v [], jn J u x ∈ G) : ClSt J S G (fun a b => done a b ∨ (a = u ∧ b = v)) Mr := by
  refine ⟨h.nd, h.lt, h.sub, h.same, h.len, fun a b ha hb hd hx => ?_⟩
  rcases hd with hd | ⟨rfl, rfl⟩
  · exact h.all a b ha hb hd hx
  · exact no.resolve_right fun z => z hx
theorem ClSt.to {J S : List (List Nat)} {G Mr : List Nat} {d1 d2 : Nat → Nat → Prop} (h : ClSt J S G d1 Mr) (e : ∀ a b, a < J.length → b < J.length → d2 a b → d1 a b) : ClSt J S G d2 Mr := ⟨h.nd, h.lt, h.sub, h.same, h.len, fun a b ha hb hd hx => h.all a b ha hb (e a b ha hb hd) hx⟩
theorem sc_law_closed : FnScope ["_law_joining_here", "_law_several", "_law_some", "_law_got", "_law_turn", "_law_more", "_law_u", "_law_v", "_law_w"] ["_law_joining_here", "_law_several", "_law_some"] (defScope s_law_closed) := ⟨rfl, rfl, rfl, by decide +kernel, rfl, by decide +kernel, by decide +kernel⟩
theorem ok_law_closed (T : Txt K mg) : Pr P w K mg base 1 "_law_closed" ["_law_joining_here", "_law_several", "_law_some"] sp_law_closed := by
  refine T.d_law_closed.pr sc_law_closed (fun vs H Q E h => ?_) (fun _ _ _ _ _ _ us hl => match us, hl with | [_, _, _], _ => rfl) (fun f cdv A outer s H vs Q E hr h => ?_)
  · obtain ⟨a, sa, o, J, S, N, B, rfl, _⟩ := h
    rfl
  · obtain ⟨a, sa, o, J, S, N, B, rfl, hJ, M, hn, hS, sev, ho, bl, bz, q⟩ := h
    refine ⟨_, (pss_cons (ps_s 3 sc_law_closed.nd (pe_callB (cr_sortedSetN rfl) rfl T.b_sorted (by decide +kernel) (pa_cons (pe_callTy (cr_setLT rfl) rfl T.b_set (by decide +kernel) (pa_cons (pv 2) pa_nil)) pa_nil)))
    (pss_cons (ps_for PassesOwn.never rfl (pi_range1 rfl T.b_range (pa_cons (pe_callB call_len rfl T.b_len (by decide +kernel) (pa_cons (pv 0) pa_nil)) pa_nil)) (pg_n 4 sc_law_closed.nd)
      (pss_cons (ps_s 5 sc_law_closed.nd (pe_callTy call_list_of rfl T.b_list (by decide +kernel) (pa_cons (pv 3) pa_nil)))
      (pss_cons (ps_for PassesOwn.never rfl (pi_range1 rfl T.b_range (pa_cons (pe_callB call_len rfl T.b_len (by decide +kernel) (pa_cons (pv 0) pa_nil)) pa_nil)) (pg_n 6 sc_law_closed.nd)
        (pss_one (ps_for PassesOwn.never rfl (pi_range1 rfl T.b_range (pa_cons (pe_callB call_len rfl T.b_len (by decide +kernel) (pa_cons (pv 0) pa_nil)) pa_nil)) (pg_n 7 sc_law_closed.nd)
          (pss_one (ps_if (PW.pt (pw_and (pt_cmpR (op_notInK (K := K) rfl) (pe_ix ix_tup (pe_ix ix_tup (pv 0) (pv 6) (fun _ _ => rfl)) (pv 7) (fun _ _ => rfl)) (pv 5) (by with_unfolding_all rfl)) (pw_and1 (pt_val (pe_callB (cr_any rfl) rfl T.b_any (by decide +kernel) (pa_cons (pe_lc (own := [("_law_w", 8)]) (g := gName 8) (tt := tYes) rfl sc_law_closed.nd (pi_list (pe_ix ix_list (pv 1) (pv 7) (fun _ _ => rfl))) (blkOk_by (N := ["_law_joining_here", "_law_several", "_law_some", "_law_got", "_law_turn", "_law_more", "_law_u", "_law_v", "_law_w"]) (sc := defScope s_law_closed) (by decide +kernel)) (fun _ _ _ _ _ => (pg_n 8 sc_law_closed.nd)) (fun _ _ _ _ _ => pts_nil) (fun _ _ _ _ _ => (pe_cmpR (op_inK (K := K) rfl) (pe_ix (ix_tupK (K := K) rfl) (pe_ix (ix_tupK (K := K) rfl) (pv 0) (pv 6) (fun _ _ => rfl)) (pv 8) (fun _ _ => rfl)) (pv 3) (by with_unfolding_all rfl)))) pa_nil))))))
            (pss_one (ps_expr (pe_bm PySem.F.plainAttrs_list PySem.F.slot_list_append PySem.F.type_list_append mt_append (pv 5) (pa_cons (pe_ix ix_tup (pe_ix ix_tup (pv 0) (pv 6) (fun _ _ => rfl)) (pv 7) (fun _ _ => rfl)) pa_nil))))
            pss_nil)))))
      (pss_cons (ps_if (pt_cmpR op_eq (pe_callB call_len rfl T.b_len (by decide +kernel) (pa_cons (pv 5) pa_nil)) (pe_callB call_len rfl T.b_len (by decide +kernel) (pa_cons (pv 3) pa_nil)) (nomark _))
        (pss_one ps_break)
        pss_nil)
      (pss_one (ps_s 3 sc_law_closed.nd (pe_callB cr_sortedI rfl T.b_sorted (by decide +kernel) (pa_cons (pv 5) pa_nil))))))))
    (pss_one (ps_ret (pv 3))))), ?_⟩
    simp only [st_c, st_n, st_0]
    have lenJ : ∀ H', Same H H' → LenV K (.ref a) H' J.length := fun H' e => by
      obtain ⟨bs, h1, h2⟩ := hJ.same e
      exact .inr ⟨_, SqT.of h1, by rw [List.length_map, pairedLen h2]⟩
    refine ⟨_, rfl, o, B.map fun (x : Nat) => (x : Int), rfl, .inl (SqL.of (by rw [mapV]; exact ho)), (by rw [List.length_map]; exact bz), fun p c hp hc => ?_⟩
    refine ⟨p, _, c, rfl, upd_same, Nat.le_trans hc (by rw [List.length_map]; exact bz), fun ns g0 up mem hg0 => ?_⟩
    obtain ⟨G0, rfl, aG, hG⟩ := asc_ints up mem
    rw [mapV]
    have s1 : Same H _ := (same_upd hp).trans (same_upd (o := .lst (G0.map nV)) hg0)
    refine ⟨_, rfl, _, J.length, rfl, lenJ _ s1, _, rfl, by omega, by omega, ?_⟩
    have fin : ∀ H' g G, Same H H' → H' g = some (.lst (G.map nV)) → Asc G → (∀ x ∈ G, x < J.length) → ClN J S G → (Asc B → ClN J S B → G = B) → Q (.ref g) H' := q
    refine for_range (lo := 0) (n := J.length) (fun i σ H2 => ∃ v4 v5 v6 v7 v8 g G, σ = [some (.ref a), some (.ref sa), some (.ref o), some (.ref g), v4, v5, v6, v7, v8] ∧ Same H H2 ∧ H2 g = some (.lst (G.map nV)) ∧ Asc G ∧ (∀ x ∈ G, x < J.length) ∧ (Asc B → ClN J S B → G = B) ∧ i ≤ G.length)
      ⟨_, _, _, _, _, g0, G0, rfl, s1, upd_same, aG, fun x hx => bl x ((hG x).mp hx), fun ab _ => asc_ext aG ab hG, Nat.zero_le _⟩ ?_ ?_
    · rintro i σ H2 hi ⟨v4, v5, v6, v7, v8, g, G, rfl, s2, hg, aG, gl, keep, iG⟩
      have gz := nodup_len _ _ (asc_nodup aG) gl
      refine ⟨_, rfl, g, _, rfl, .inl (SqL.of hg), fun m hm => ?_⟩
      have s3 : Same H (upd H2 m (.lst (G.map nV))) := s2.trans (same_upd hm)
      have nmg : m ≠ g := (ne_of_none hg hm).symm
      have m0 : H m = none := s2.free hm
      refine ⟨_, rfl, _, J.length, rfl, lenJ _ s3, _, rfl, by omega, by omega, ?_⟩
      refine for_range (lo := 0) (n := J.length) (fun u σ H3 => ∃ v6 v7 v8 Mr, σ = [some (.ref a), some (.ref sa), some (.ref o), some (.ref g), some (.int (0 + (i : Int))), some (.ref m), v6, v7, v8] ∧ Same H H3 ∧ H3 g = some (.lst (G.map nV)) ∧ H3 m = some (.lst (Mr.map nV)) ∧ G.length ≤ Mr.length ∧ ClSt J S G (fun a _ => a < u) Mr)
        ⟨_, _, _, G, rfl, s3, by rw [upd_ne nmg.symm]; exact hg, upd_same, Nat.le_refl _, ⟨asc_nodup aG, gl, fun x hx => hx, fun _ => rfl, fun _ => rfl, fun a b _ _ h => absurd h (Nat.not_lt_zero _)⟩⟩ ?_ ?_
      · rintro u σ H3 hu ⟨v6, v7, v8, Mr, rfl, s3, hg3, hm3, gm, st⟩
        rw [show (0 : Int) + (u : Int) = (u : Int) from Int.zero_add _]
        refine ⟨_, rfl, _, J.length, rfl, lenJ _ s3, _, rfl, by omega, by omega, ?_⟩
        refine for_range (lo := 0) (n := J.length) (fun v σ H4 => ∃ v7 v8 Mr, σ = [some (.ref a), some (.ref sa), some (.ref o), some (.ref g), some (.int (0 + (i : Int))), some (.ref m), some (nV u), v7, v8] ∧ Same H H4 ∧ H4 g = some (.lst (G.map nV)) ∧ H4 m = some (.lst (Mr.map nV)) ∧ G.length ≤ Mr.length ∧ ClSt J S G (fun a b => a < u ∨ (a = u ∧ b < v)) Mr)
          ⟨_, _, Mr, rfl, s3, hg3, hm3, gm, st.to fun a b _ _ h => h.resolve_right fun ⟨_, z⟩ => absurd z (Nat.not_lt_zero _)⟩ ?_ ?_
        · rintro v σ H4 hv ⟨v7, v8, Mr, rfl, s4, hg4, hm4, gm, st⟩
          rw [show (0 : Int) + (v : Int) = (v : Int) from Int.zero_add _]
          obtain ⟨r, e1, e2⟩ := M.at_row hu hv
          obtain ⟨xs, b, x1, x2, x3⟩ := (hJ.same s4).row e1
          have mz := nodup_len _ _ st.nd st.lt
          have nxt : ∀ {Mr' : List Nat}, ClSt J S G (fun a b => (a < u ∨ (a = u ∧ b < v)) ∨ (a = u ∧ b = v)) Mr' → ClSt J S G (fun a b => a < u ∨ (a = u ∧ b < v + 1)) Mr' := fun h => h.to fun a b _ _ z => by
            rcases z with z | ⟨z1, z2⟩
            · exact .inl (.inl z)
            · rcases Nat.lt_or_ge b v with y | y
              · exact .inl (.inr ⟨z1, y⟩)
              · exact .inr ⟨z1, by omega⟩
          refine ⟨_, rfl, _, rfl, _, _, _, _, rfl, rfl, SqT.of x1, x2, _, rfl, _, _, _, _, rfl, rfl, SqT.of x3, at_nV e2, _, rfl, m, Mr.map nV, rfl, .inl (SqL.of hm4), rfl, flat_N Mr, _, rfl, ?_⟩
          dsimp only
          rw [if_pos rfl, inV_N]
          by_cases hin : jn J u v ∈ Mr
          · rw [decide_eq_true hin]
            exact iteF ⟨_, _, Mr, rfl, s4, hg4, hm4, gm, nxt (st.skip (.inl hin))⟩
          rw [decide_eq_false hin]
          refine iteT ?_
          obtain ⟨ev, _, _⟩ := sev_at sev hv
          obtain ⟨ss, hss, hsp⟩ := id hS
          obtain ⟨sb, hsb, hsr⟩ := pairedAt hsp ev
          have hsb4 := s4 _ _ hsr
          obtain ⟨_, rlen, rlt⟩ := sev_at sev hv
          generalize hR : S.getD v [] = R at *
          refine ⟨_, rfl, _, rfl, sa, _, _, _, rfl, rfl, SqL.of (s4 _ _ hss), at_ref hsb, sb, rfl, ⟨_, SqL.of hsb4⟩, fun D hD => ?_⟩
          refine lc_it walk_list (LcP H4 D (fun j acc _ => acc = ((R.take j).map fun x => V.bl (decide (jn J u x ∈ G))))) (LcP.zero hD rfl) (fun j H5 _ ⟨_, s5, _⟩ => SqL.of (s5 _ _ hsb4)) ?_ fun H5 h5 => ?_
          · rintro j x H5 _ hj ⟨acc, s5, hda, hle, e⟩ ⟨rfl, hx⟩
            obtain ⟨y, hy, rfl⟩ := nV_at hx
            have hyl := rlt y (List.mem_of_getElem? hy)
            obtain ⟨r2, f1, f2⟩ := M.at_row hu hyl
            rw [e1] at f1
            cases f1
            refine ⟨rfl, tyes ?_⟩
            refine ⟨_, rfl, _, rfl, _, _, _, _, rfl, rfl, SqT.of (s5 _ _ x1), x2, _, rfl, _, _, _, _, rfl, rfl, SqT.of (s5 _ _ x3), at_nV f2, _, rfl, g, G.map nV, rfl, .inl (SqL.of (s5 _ _ hg4)), rfl, flat_N G, ?_⟩
            dsimp only
            rw [if_neg Bool.false_ne_true, inV_N]
            refine LcP.put hD s5 hda hle (Nat.lt_of_lt_of_le hj (by rw [List.length_map]; exact Nat.le_trans (show R.length ≤ 12 by omega) (by decide))) (Same.refl _) ?_
            rw [e]
            exact take_succ_map hy
          obtain ⟨hq, s5⟩ := finMap (K := K) (List.length_map ..) h5
          refine ⟨D, _, rfl, hq, ?_⟩
          rw [any_map]
          refine ⟨_, rfl, ?_⟩
          have s45 := s4.trans s5
          by_cases hany : (R.any fun x => decide (jn J u x ∈ G)) = true
          · rw [hany]
            refine iteT ?_
            obtain ⟨x, hx, hx2⟩ := List.any_eq_true.mp hany
            refine ⟨_, rfl, .inl ⟨rfl, _, SqL.of (s5 _ _ hm4)⟩, _, rfl, _, rfl, _, _, _, _, rfl, rfl, SqT.of (s5 _ _ x1), x2, _, rfl, _, _, _, _, rfl, rfl, SqT.of (s5 _ _ x3), at_nV e2, m, _, _, rfl, rfl, s5 _ _ hm4, by rw [List.length_map]; exact Nat.lt_of_le_of_lt (show Mr.length ≤ 12 by omega) (by decide), ?_⟩
            refine ⟨_, _, Mr ++ [jn J u v], rfl, same_put m0 s45, by rw [upd_ne nmg.symm]; exact s5 _ _ hg4, by rw [upd_same, List.map_append]; rfl, by rw [List.length_append]; omega, nxt (st.put M hu hv gm hin (by rw [hR]; exact ⟨x, hx, of_decide_eq_true hx2⟩))⟩
          · rw [Bool.eq_false_iff.mpr hany]
            refine iteF ⟨_, _, Mr, rfl, s45, s5 _ _ hg4, s5 _ _ hm4, gm, nxt (st.skip (.inr fun ⟨x, hx, hx2⟩ => hany (List.any_eq_true.mpr ⟨x, by rw [← hR]; exact hx, decide_eq_true hx2⟩)))⟩
        · rintro σ H4 ⟨v7, v8, Mr, rfl, s4, hg4, hm4, gm, st⟩
          refine ⟨_, _, _, Mr, rfl, s4, hg4, hm4, gm, st.to fun a b _ hb z => ?_⟩
          rcases Nat.lt_or_ge a u with y | y
          · exact .inl y
          · exact .inr ⟨by omega, hb⟩
      · rintro σ H3 ⟨v6, v7, v8, Mr, rfl, s3, hg3, hm3, gm, st⟩
        have mz := nodup_len _ _ st.nd st.lt
        refine ⟨_, rfl, _, Mr.length, rfl, .inl ⟨_, SqL.of hm3, (List.length_map ..).symm⟩, _, rfl, _, G.length, rfl, .inl ⟨_, SqL.of hg3, (List.length_map ..).symm⟩, rfl, _, rfl, ?_⟩
        rw [dec_int]
        by_cases el : Mr.length = G.length
        · rw [show ((Mr.length : Int) == (G.length : Int)) = true from beq_iff_eq.mpr (by rw [el])]
          refine iteT ⟨_, rfl, ?_⟩
          have eM := st.len el
          exact fin H3 g G s3 hg3 aG gl (fun u v hu hv hx => by have := st.all u v hu hv hu hx; rw [eM] at this; exact this) keep
        · rw [show ((Mr.length : Int) == (G.length : Int)) = false from beq_eq_false_iff_ne.mpr (by omega)]
          refine iteF ?_
          refine ⟨_, rfl, m, Mr.map (fun (x : Nat) => (x : Int)), rfl, SqL.of (by rw [mapV]; exact hm3), fun ys p hperm hsort hp => ?_⟩
          obtain ⟨hs, rfl, hl3, hm4⟩ := sorted_N hperm
          rw [mapV]
          refine ⟨_, _, _, _, _, p, hs, rfl, s3.trans (same_upd hp), upd_same, sort_up hperm hsort st.nd, fun x hx => st.lt x ((hm4 x).mp hx), fun ab cb => ?_, by omega⟩
          have e := keep ab cb
          exact absurd (congrArg List.length (st.same (by rw [e]; exact cb))) el
    · rintro σ H2 ⟨v4, v5, v6, v7, v8, g, G, rfl, s2, hg, aG, gl, keep, iG⟩
      exact ⟨_, rfl, fin H2 g G s2 hg aG gl (fun u v hu hv _ => nodup_full (asc_nodup aG) gl iG (M.lt u v hu hv)) keep⟩
end
end UC
set_option Elab.async false
set_option linter.all false
set_option maxRecDepth 100000
set_option maxHeartbeats 8000000
/-! The law's letters, the stands of a kind. -/
namespace UC
open PySem PySem.Spec PyProof.Rows L2
theorem valV_out : ∀ (kvs : List (Key × V)) (k : Key), k ∉ kvs.map (·.1) → valV kvs k = none
  | [], _, _ => rfl
  | (a, v) :: kvs, k, h => by
    have h1 : a ≠ k := fun e => h (by rw [e]; simp)
    rw [valV_neg h1]
    exact valV_out kvs k fun z => h (List.mem_cons_of_mem _ z)
theorem LetAt.get {H H2 : Hp} {d tp : Addr} {ks : List Nat} {lo : Nat → List Nat} {n : Nat} (h : LetAt H d ks lo) (ok : LetOk n ks lo) (e : Same H H2) (ht : H2 tp = some (.tup [])) (l : Nat) : ∃ (o : Option V) (a : Addr), DGet H2 d (nV l) o ∧ o.getD (.ref tp) = .ref a ∧ H2 a = some (.tup ((lo l).map nV)) := by
  obtain ⟨kvs, h1, h2, h3⟩ := h.ex
  by_cases hl : l ∈ ks
  · obtain ⟨b, q1, q2⟩ := h3 l hl
    exact ⟨some (.ref b), b, .inl ⟨kvs, kn l, .inl (e _ _ h1), rfl, q1.symm⟩, rfl, e _ _ q2⟩
  · have q : valV kvs (kn l) = none := valV_out _ _ (by rw [h2]; intro z; obtain ⟨y, hy, ey⟩ := List.mem_map.mp z; exact hl (kn_inj.mp ey ▸ hy))
    exact ⟨none, tp, .inl ⟨kvs, kn l, .inl (e _ _ h1), rfl, q.symm⟩, rfl, by rw [ok.out l hl]; exact ht⟩
def setLo (lo : Nat → List Nat) (i : Nat) (G : List Nat) : Nat → List Nat := fun l => if l = i then G else lo l
theorem setLo_eq (lo : Nat → List Nat) (i : Nat) (G : List Nat) : setLo lo i G i = G := if_pos rfl
theorem setLo_ne (lo : Nat → List Nat) {i l : Nat} (G : List Nat) (h : l ≠ i) : setLo lo i G l = lo l := if_neg h
theorem clN_nil (J S : List (List Nat)) : ClN J S [] := fun u v _ _ ⟨x, _, h⟩ => by cases h
section
variable {P : Program} {w : World} {K : PySem.W.Frag} {mg : Str → Option Value} {base : Heap}
def sp_law_letters : Sp := fun vs H Q _ => ∃ (pd a sa : Addr) (J S : List (List Nat)) (N : List Nat) (m : Nat), vs = [.ref pd, .ref a, .ref sa, nV m] ∧ PoolAt H pd ∧ TblG H a J ∧ Mon J ∧ J.length ≤ 12 ∧ TblH H sa S ∧ SevN J S N ∧ m ≤ 3 ∧
  ∀ (H' : Hp) (p : Addr) (lo : Nat → List Nat), Same H H' → LetAt H' p (List.range m) lo → LetOk J.length (List.range m) lo → (∀ l, ClN J S (lo l)) → Q (.ref p) H'
theorem sc_law_letters : FnScope ["_law_pool_here", "_law_joining_here", "_law_several", "_law_many", "_law_got", "_law_letter", "_law_some", "_law_u"] ["_law_pool_here", "_law_joining_here", "_law_several", "_law_many"] (defScope s_law_letters) := ⟨rfl, rfl, rfl, by decide +kernel, rfl, by decide +kernel, by decide +kernel⟩
theorem ok_law_letters (T : Txt K mg) : Pr P w K mg base 2 "_law_letters" ["_law_pool_here", "_law_joining_here", "_law_several", "_law_many"] sp_law_letters := by
  have G_law_draw : Pr P w K mg base 1 "_law_draw" _ _ := ok_law_draw T
  have G_law_closed : Pr P w K mg base 1 "_law_closed" _ _ := ok_law_closed T
  refine T.d_law_letters.pr sc_law_letters (fun vs H Q E h => ?_) (fun _ _ _ _ _ _ us hl => match us, hl with | [_, _, _, _], _ => rfl) (fun f cdv A outer s H vs Q E hr h => ?_)
  · obtain ⟨pd, a, sa, J, S, N, m, rfl, _⟩ := h
    rfl
  · obtain ⟨pd, a, sa, J, S, N, m, rfl, hp, hJ, M, hn, hS, sev, m3, q⟩ := h
    have hu := hu_of hr
    refine ⟨_, (pss_cons (ps_s 4 sc_law_letters.nd pe_dnewK)
    (pss_cons (ps_for PassesOwn.never rfl (pi_range1 rfl T.b_range (pa_cons (pv 3) pa_nil)) (pg_n 5 sc_law_letters.nd)
      (pss_cons (ps_setLc (i := 6) (own := [("_law_u", 7)]) (g := gName 7) rfl sc_law_letters.nd rfl rfl (sw_true rfl rfl rfl (by decide +kernel)) (pi_range1 rfl T.b_range (pa_cons (pe_callB call_len rfl T.b_len (by decide +kernel) (pa_cons (pv 1) pa_nil)) pa_nil)) (blkOk_by (N := ["_law_pool_here", "_law_joining_here", "_law_several", "_law_many", "_law_got", "_law_letter", "_law_some", "_law_u"]) (sc := defScope s_law_letters) (by decide +kernel)) (fun _ _ _ _ _ => (pg_n 7 sc_law_letters.nd)) (fun _ _ _ _ _ => (pts_one (pt_cmpR op_eq (pe_callP G_law_draw hr (by decide) (pa_cons (pv 0) (pa_cons pe_int pa_nil))) pe_int (nomark _)))) (fun _ _ _ _ _ => (pv 7)))
      (pss_one (ps_dput hu (pv 4) (pv 5) (pe_callTy call_tuple_of rfl T.b_tuple (by decide +kernel) (pa_cons (pe_callP G_law_closed hr (by decide) (pa_cons (pv 1) (pa_cons (pv 2) (pa_cons (pv 6) pa_nil)))) pa_nil)) rfl))))
    (pss_one (ps_ret (pv 4))))), ?_⟩
    simp only [st_c, st_n, st_0]
    have lenJ : ∀ H', Same H H' → LenV K (.ref a) H' J.length := fun H' e => by
      obtain ⟨bs, h1, h2⟩ := hJ.same e
      exact .inr ⟨_, SqT.of h1, by rw [List.length_map, pairedLen h2]⟩
    intro d hd
    refine ⟨_, rfl, _, rfl, by omega, by omega, ?_⟩
    refine for_range (lo := 0) (n := m) (fun i σ H2 => ∃ v5 v6 v7 kvs lo, σ = [some (.ref pd), some (.ref a), some (.ref sa), some (nV m), some (.ref d), v5, v6, v7] ∧ Same H H2 ∧ H2 d = some (.dK kvs) ∧ kvs.map (·.1) = (List.range i).map kn ∧
      (∀ l, l < i → ∃ b, valV kvs (kn l) = some (.ref b) ∧ H2 b = some (.tup ((lo l).map nV))) ∧ LetOk J.length (List.range i) lo ∧ ∀ l, ClN J S (lo l)) ⟨_, _, _, [], fun _ => [], rfl, same_upd hd, upd_same, rfl, fun l h => absurd h (Nat.not_lt_zero _), ⟨fun l h => absurd (List.mem_range.mp h) (Nat.not_lt_zero _), fun _ => List.Pairwise.nil, fun _ x h => (List.not_mem_nil h).elim, fun _ _ => rfl⟩, fun _ => clN_nil J S⟩ ?_ ?_
    · rintro i σ H2 hi ⟨v5, v6, v7, kvs, lo, rfl, s2, hd2, hkeys, hval, lok, cl⟩
      rw [show (0 : Int) + (i : Int) = (i : Int) from Int.zero_add _]
      refine ⟨_, rfl, _, J.length, rfl, lenJ H2 s2, _, rfl, by omega, by omega, fun D hD => ?_⟩
      refine lc_range (lo := 0) (n := J.length) (LcP H2 D (fun j acc _ => ∃ B : List Nat, acc = B.map nV ∧ (∀ x ∈ B, x < J.length) ∧ B.length ≤ j)) (LcP.zero hD ⟨[], rfl, fun x h => (List.not_mem_nil h).elim, Nat.le_refl _⟩) ?_ fun H3 h3 => ?_
      · rintro u H3 hu3 ⟨acc, s3, hda, hle, B, rfl, hB, lB⟩
        rw [show (0 : Int) + (u : Int) = (u : Int) from Int.zero_add _]
        refine ⟨rfl, ?_⟩
        refine ⟨_, rfl, pd, 4, rfl, hp.same (s2.trans s3), by decide, by decide, fun r hr4 => ⟨rfl, _, rfl, ?_⟩⟩
        rw [dec_int]
        by_cases c0 : (r : Int) = 0
        · rw [show ((r : Int) == 0) = true from beq_iff_eq.mpr c0]
          refine iteT ⟨_, rfl, ?_⟩
          refine LcP.put hD s3 hda hle (Nat.lt_of_lt_of_le hu3 (Nat.le_trans (show J.length ≤ 12 by omega) (by decide))) (Same.refl _) ⟨B ++ [u], by rw [List.map_append]; rfl, fun x hx => ?_, by rw [List.length_append]; exact Nat.succ_le_succ lB⟩
          rcases List.mem_append.mp hx with z | z
          · exact hB x z
          · rw [List.mem_singleton.mp z]; exact hu3
        · rw [show ((r : Int) == 0) = false from beq_eq_false_iff_ne.mpr c0]
          exact iteF (LcP.skip s3 hda hle (Same.refl _) ⟨B, rfl, hB, Nat.le_succ_of_le lB⟩)
      obtain ⟨acc, s3, hda, _, B, rfl, hB, lB⟩ := h3
      have s23 := s2.trans s3
      refine ⟨_, rfl, _, rfl, _, rfl, a, sa, D, J, S, N, B, rfl, hJ.same s23, M, hn, hS.same s23, sev, hda, hB, Nat.le_trans lB (by omega), fun H4 p G s4 hp4 aG gl cG _ => ?_⟩
      refine ⟨p, _, rfl, .inl ⟨SqL.of hp4, fun t ht => ?_⟩⟩
      have t5 := same_upd (o := .tup (G.map nV)) ht
      have s35 := s3.trans (s4.trans t5)
      have hd5 := s35 _ _ hd2
      have kl : kvs.length = i := by have := congrArg List.length hkeys; simpa using this
      refine ⟨_, rfl, _, rfl, d, _, rfl, DPut.k (k := kn i) hd5 (Nat.lt_of_le_of_lt (show kvs.length ≤ 3 by omega) (by decide)), ?_⟩
      have new : valV kvs (kn i) = none := valV_out _ _ (by rw [hkeys]; intro z; obtain ⟨y, hy, ey⟩ := List.mem_map.mp z; have := kn_inj.mp ey; have := List.mem_range.mp hy; omega)
      have nbd : ∀ b xs, H2 b = some (.tup xs) → b ≠ d := fun b xs z e => by rw [e, hd2] at z; cases z
      refine ⟨_, _, _, putK kvs (kn i) (.ref t), setLo lo i G, rfl, same_put hd (s2.trans s35), upd_same, ?_, fun l hl => ?_, ⟨fun l hl => ?_, fun l => ?_, fun l => ?_, fun l hl => ?_⟩, fun l => ?_⟩
      · rw [putK_new _ new, List.map_append, hkeys, List.range_succ, List.map_append]
        rfl
      · rw [valV_put]
        by_cases e : l = i
        · subst e
          rw [if_pos rfl, setLo_eq]
          exact ⟨t, rfl, by rw [upd_ne (fun e => by rw [e] at ht; have := (s3.trans s4) _ _ hd2; rw [this] at ht; cases ht)]; exact upd_same⟩
        · rw [if_neg fun z => e (kn_inj.mp z), setLo_ne lo G e]
          obtain ⟨b, b1, b2⟩ := hval l (by omega)
          exact ⟨b, b1, by rw [upd_ne (nbd _ _ b2)]; exact s35 _ _ b2⟩
      · have := List.mem_range.mp hl
        omega
      · by_cases e : l = i
        · rw [e, setLo_eq]; exact aG
        · rw [setLo_ne lo G e]; exact lok.asc l
      · by_cases e : l = i
        · rw [e, setLo_eq]; exact gl
        · rw [setLo_ne lo G e]; exact lok.lt l
      · rw [List.mem_range] at hl
        rw [setLo_ne lo G (by omega)]
        exact lok.out l (by rw [List.mem_range]; omega)
      · by_cases e : l = i
        · rw [e, setLo_eq]; exact cG
        · rw [setLo_ne lo G e]; exact cl l
    · rintro σ H2 ⟨v5, v6, v7, kvs, lo, rfl, s2, hd2, hkeys, hval, lok, cl⟩
      exact ⟨_, rfl, q H2 d lo s2 ⟨kvs, hd2, hkeys, fun l hl => hval l (List.mem_range.mp hl)⟩ lok cl⟩
/-! the stands of a kind, straight from the words -/
def sp_law_stands (N : Nat) : Sp := fun vs H Q _ => ∃ (a d : Addr) (J : List (List Nat)) (ks : List Nat) (lo : Nat → List Nat) (k : Kd) (v : V), vs = [.ref a, .ref d, v] ∧ TblG H a J ∧ Mon J ∧ J.length ≤ 200 ∧ LetAt H d ks lo ∧ LetOk J.length ks lo ∧ KdAt H k v ∧ k.depth ≤ N ∧
  ∀ (H' : Hp) (p : Addr), Same H H' → H' p = some (.lst ((stN J lo k).map nV)) → Q (.ref p) H'
theorem sc_law_stands : FnScope ["_law_joining_here", "_law_letters_here", "_law_kind_here", "_law_own", "_law_last", "_law_u", "_law_v"] ["_law_joining_here", "_law_letters_here", "_law_kind_here"] (defScope s_law_stands) := ⟨rfl, rfl, rfl, by decide +kernel, rfl, by decide +kernel, by decide +kernel⟩
theorem ok_law_stands (T : Txt K mg) : ∀ N : Nat, N ≤ 20 → Pr P w K mg base (N + 1) "_law_stands" ["_law_joining_here", "_law_letters_here", "_law_kind_here"] (sp_law_stands N)
  | 0, _ => by
    refine T.d_law_stands.pr sc_law_stands (fun vs H Q E h => ?_) (fun _ _ _ _ _ _ us hl => match us, hl with | [_, _, _], _ => rfl) (fun f cdv A outer s H vs Q E hr h => ?_)
    · obtain ⟨a, d, J, ks, lo, k, v, rfl, _⟩ := h
      rfl
    · obtain ⟨a, d, J, ks, lo, k, v, rfl, hJ, M, hn, hD, lok, hk, dk, q⟩ := h
      have hu := hu_of hr
      refine ⟨_, (pss_cons (ps_if (pt_not (pt_val (pe_callB call_isi rfl T.b_isinstance (by decide +kernel) (pa_cons (pv 2) (pa_cons (pe_bltn (v := .ty "tuple") (by rfl) T.b_tuple (by decide +kernel) rfl) pa_nil)))))
      (pss_one (ps_ret (pe_callTy call_list_of rfl T.b_list (by decide +kernel) (pa_cons (pe_dget2 hu (pv 1) (pv 2) (pe_tup pa_nil) ⟨by rfl, by rfl, by rfl, by rfl⟩) pa_nil))))
      pss_nil)
    pss_never), ?_⟩
      simp only [st_c, st_n, st_0]
      cases k with
      | lt n =>
        cases (show v = nV n from hk)
        obtain ⟨kvs, hd1, _, _⟩ := id hD.ex
        refine ⟨_, rfl, _, _, _, _, false, rfl, .ty _, .base (.int _), kit_ty (by decide +kernel), false, rfl, iteT ?_⟩
        refine ⟨_, rfl, d, rfl, .inl ⟨kvs, .inl hd1⟩, _, rfl, Nat.zero_le _, fun tp htp => ?_⟩
        have t2 : Same H (upd H tp (.tup [])) := same_upd htp
        obtain ⟨o, ad, g1, g2, g3⟩ := hD.get lok t2 upd_same n
        refine ⟨o, g1, ad, (lo n).map nV, ?_, .inr (SqT.of g3), fun p hp => q _ p (t2.trans (same_upd hp)) upd_same⟩
        rw [g2]
      | ar x y =>
        obtain ⟨p, x1, x2, rfl, hpt, ha, hb⟩ := hk
        refine ⟨_, rfl, _, _, _, _, true, rfl, .ty _, .base (.tup hpt), kit_ty (by decide +kernel), true, rfl, iteF ?_⟩
        exact absurd dk (Nat.not_succ_le_zero _)
  | N + 1, hN => by
    have G_law_stands : Pr P w K mg base (N + 1) "_law_stands" _ _ := ok_law_stands T N (by omega)
    refine T.d_law_stands.pr sc_law_stands (fun vs H Q E h => ?_) (fun _ _ _ _ _ _ us hl => match us, hl with | [_, _, _], _ => rfl) (fun f cdv A outer s H vs Q E hr h => ?_)
    · obtain ⟨a, d, J, ks, lo, k, v, rfl, _⟩ := h
      rfl
    · obtain ⟨a, d, J, ks, lo, k, v, rfl, hJ, M, hn, hD, lok, hk, dk, q⟩ := h
      have hu := hu_of hr
      refine ⟨_, (pss_cons (ps_if (pt_not (pt_val (pe_callB call_isi rfl T.b_isinstance (by decide +kernel) (pa_cons (pv 2) (pa_cons (pe_bltn (v := .ty "tuple") (by rfl) T.b_tuple (by decide +kernel) rfl) pa_nil)))))
      (pss_one (ps_ret (pe_callTy call_list_of rfl T.b_list (by decide +kernel) (pa_cons (pe_dget2 hu (pv 1) (pv 2) (pe_tup pa_nil) ⟨by rfl, by rfl, by rfl, by rfl⟩) pa_nil))))
      pss_nil)
    (pss_cons (ps_asg (pe_tup (pa_cons (pe_callP G_law_stands hr (by omega) (pa_cons (pv 0) (pa_cons (pv 1) (pa_cons (pe_ix ix_tup (pv 2) pe_int (fun _ _ => rfl)) pa_nil)))) (pa_cons (pe_callP G_law_stands hr (by omega) (pa_cons (pv 0) (pa_cons (pv 1) (pa_cons (pe_ix ix_tup (pv 2) pe_int (fun _ _ => rfl)) pa_nil)))) pa_nil))) (pg_tup rfl (pgs_cons (pg_n 3 sc_law_stands.nd) (pgs_cons (pg_n 4 sc_law_stands.nd) pgs_nil))))
    (pss_one (ps_ret (pe_lc (own := [("_law_u", 5)]) (g := gName 5) rfl sc_law_stands.nd (pi_range1 rfl T.b_range (pa_cons (pe_callB call_len rfl T.b_len (by decide +kernel) (pa_cons (pv 0) pa_nil)) pa_nil)) (blkOk_by (N := ["_law_joining_here", "_law_letters_here", "_law_kind_here", "_law_own", "_law_last", "_law_u", "_law_v"]) (sc := defScope s_law_stands) (by decide +kernel)) (fun _ _ _ _ _ => (pg_n 5 sc_law_stands.nd)) (fun _ _ _ _ _ => (pts_one (pt_val (pe_callB (cr_allK (K := K) (by rfl) (by rfl)) (by rfl) T.b_all (by decide +kernel) (pa_cons (pe_lc (own := [("_law_v", 6)]) (g := gName 6) (tt := tYes) rfl sc_law_stands.nd (pi_listK (K := K) rfl (pv 3)) (blkOk_by (by rfl)) (fun _ _ _ _ _ => (pg_n 6 sc_law_stands.nd)) (fun _ _ _ _ _ => pts_nil) (fun _ _ _ _ _ => (pe_cmpR (op_inK (K := K) rfl) (pe_ix (ix_tupK (K := K) rfl) (pe_ix (ix_tupK (K := K) rfl) (pv 0) (pv 5) (fun _ _ => rfl)) (pv 6) (fun _ _ => rfl)) (pv 4) (by with_unfolding_all rfl)))) pa_nil))))) (fun _ _ _ _ _ => (pv 5))))))), ?_⟩
      simp only [st_c, st_n, st_0]
      cases k with
      | lt n =>
        cases (show v = nV n from hk)
        obtain ⟨kvs, hd1, _, _⟩ := id hD.ex
        refine ⟨_, rfl, _, _, _, _, false, rfl, .ty _, .base (.int _), kit_ty (by decide +kernel), false, rfl, iteT ?_⟩
        refine ⟨_, rfl, d, rfl, .inl ⟨kvs, .inl hd1⟩, _, rfl, Nat.zero_le _, fun tp htp => ?_⟩
        have t2 : Same H (upd H tp (.tup [])) := same_upd htp
        obtain ⟨o, ad, g1, g2, g3⟩ := hD.get lok t2 upd_same n
        refine ⟨o, g1, ad, (lo n).map nV, ?_, .inr (SqT.of g3), fun p hp => q _ p (t2.trans (same_upd hp)) upd_same⟩
        rw [g2]
      | ar x y =>
        obtain ⟨p, x1, x2, rfl, hpt, ha, hb⟩ := hk
        refine ⟨_, rfl, _, _, _, _, true, rfl, .ty _, .base (.tup hpt), kit_ty (by decide +kernel), true, rfl, iteF ?_⟩
        have dx : x.depth ≤ N ∧ y.depth ≤ N := by
          have e : max x.depth y.depth + 1 ≤ N + 1 := dk
          omega
        refine ⟨_, rfl, _, rfl, _, rfl, _, _, _, _, rfl, rfl, SqT.of hpt, rfl, a, d, J, ks, lo, x, x1, rfl, hJ, M, hn, hD, lok, ha, dx.1, fun H1 p1 s1 hp1 => ?_⟩
        refine ⟨_, rfl, _, rfl, _, rfl, _, _, _, _, rfl, rfl, SqT.of (s1 _ _ hpt), rfl, a, d, J, ks, lo, y, x2, rfl, hJ.same s1, M, hn, hD.same s1, lok, hb.same s1, dx.2, fun H2 p2 s2 hp2 => ?_⟩
        refine ⟨Nat.le_of_ble_eq_true rfl, fun tp htp => ⟨tp, _, rfl, SqT.of upd_same, rfl, _, _, rfl, _, _, rfl, rfl, ?_⟩⟩
        have t3 : Same H2 (upd H2 tp (.tup [.ref p1, .ref p2])) := same_upd htp
        have hp13 := t3 _ _ (s2 _ _ hp1)
        have hp23 := t3 _ _ hp2
        have s3 : Same H (upd H2 tp (.tup [.ref p1, .ref p2])) := (s1.trans s2).trans t3
        generalize upd H2 tp (.tup [.ref p1, .ref p2]) = H3 at s3 hp13 hp23 ⊢
        have lenJ : LenV K (.ref a) H3 J.length := by
          obtain ⟨bs, h1, h2⟩ := hJ.same s3
          exact .inr ⟨_, SqT.of h1, by rw [List.length_map, pairedLen h2]⟩
        have lx := stN_lt (J := J) lok.lt x
        have lxz : (stN J lo x).length ≤ 200 := Nat.le_trans (asc_len lx (stN_asc lok.asc x)) hn
        refine ⟨_, rfl, _, J.length, rfl, lenJ, _, rfl, by omega, by omega, fun D hD2 => ?_⟩
        refine lc_range (lo := 0) (n := J.length) (LcP H3 D (fun i acc _ => acc = ((List.range i).filter fun u => (stN J lo x).all fun v => (stN J lo y).contains (jn J u v)).map nV)) (LcP.zero hD2 rfl) ?_ fun H4 h4 => ?_
        · rintro u H4 hu4 ⟨acc, s4, hda, hle, e⟩
          rw [show (0 : Int) + (u : Int) = (u : Int) from Int.zero_add _]
          refine ⟨rfl, ?_⟩
          refine ⟨_, rfl, p1, rfl, ⟨_, SqL.of (s4 _ _ hp13)⟩, fun D2 hD3 => ?_⟩
          refine lc_it walk_list (LcP H4 D2 (fun j acc _ => acc = (((stN J lo x).take j).map fun v => V.bl (decide (jn J u v ∈ stN J lo y))))) (LcP.zero hD3 rfl) (fun j H5 _ ⟨_, s5, _⟩ => SqL.of (s5 _ _ (s4 _ _ hp13))) ?_ fun H5 h5 => ?_
          · rintro j z H5 _ hj ⟨acc5, s5, hda5, hle5, e5⟩ ⟨rfl, hz⟩
            obtain ⟨v, hv, rfl⟩ := nV_at hz
            have vl := lx v (List.mem_of_getElem? hv)
            obtain ⟨r, e1, e2⟩ := M.at_row hu4 vl
            obtain ⟨xs, b, y1, y2, y3⟩ := ((hJ.same s3).same (s4.trans s5)).row e1
            refine ⟨rfl, tyes ?_⟩
            refine ⟨_, rfl, _, rfl, _, _, _, _, rfl, rfl, SqT.of y1, y2, _, rfl, _, _, _, _, rfl, rfl, SqT.of y3, at_nV e2, _, rfl, p2, _, rfl, .inl (SqL.of ((s4.trans s5) _ _ hp23)), rfl, flat_N _, ?_⟩
            dsimp only
            rw [if_neg Bool.false_ne_true, inV_N]
            refine LcP.put hD3 s5 hda5 hle5 (Nat.lt_of_lt_of_le hj (by rw [List.length_map]; exact Nat.le_trans lxz (by decide))) (Same.refl _) ?_
            rw [e5]
            exact take_succ_map hv
          obtain ⟨hq, s5⟩ := finMap (K := K) (List.length_map ..) h5
          refine ⟨D2, _, rfl, hq, ?_⟩
          rw [all_map]
          refine ⟨_, rfl, ?_⟩
          have eb : ((stN J lo x).all fun v => decide (jn J u v ∈ stN J lo y)) = ((stN J lo x).all fun v => (stN J lo y).contains (jn J u v)) := by
            congr 1
            funext v
            rw [Bool.eq_iff_iff]
            simp
          rw [eb]
          have step : ∀ c : Bool, c = ((stN J lo x).all fun v => (stN J lo y).contains (jn J u v)) → ((List.range (u + 1)).filter fun u => (stN J lo x).all fun v => (stN J lo y).contains (jn J u v)).map nV = if c = true then acc ++ [nV u] else acc := fun c hc => by
            rw [List.range_succ, List.filter_append, List.map_append, ← e, List.filter_cons, ← hc]
            cases c <;> simp
          cases hc : ((stN J lo x).all fun v => (stN J lo y).contains (jn J u v)) with
          | true =>
            refine iteT ⟨_, rfl, LcP.put hD2 s4 hda hle (Nat.lt_of_lt_of_le hu4 (Nat.le_trans hn (by decide))) s5 ?_⟩
            rw [step true hc.symm, if_pos rfl]
          | false =>
            refine iteF (LcP.skip s4 hda hle s5 ?_)
            rw [step false hc.symm]
            rfl
        obtain ⟨acc, s4, hda, _, e⟩ := h4
        rw [e] at hda
        exact q H4 D (s3.trans s4) hda
end
end UC
set_option Elab.async false
set_option linter.all false
set_option maxRecDepth 100000
set_option maxHeartbeats 8000000
/-! The law's house, numbered anew. -/
namespace UC
open PySem PySem.Spec PyProof.Rows L2
theorem merge_app : ∀ (more acc : List (Key × V)), ((acc ++ more).map (·.1)).Nodup → mergeK acc more = acc ++ more
  | [], acc, _ => (List.append_nil acc).symm
  | (k, v) :: r, acc, h => by
    show mergeK (putK acc k v) r = _
    have e : acc ++ (k, v) :: r = (acc ++ [(k, v)]) ++ r := by rw [List.append_assoc]; rfl
    have nk : k ∉ acc.map (·.1) := fun z => by
      rw [List.map_append] at h
      exact (List.nodup_append.mp h).2.2 k z k (by simp) rfl
    rw [putK_new _ (valV_out _ _ nk), e]
    exact merge_app r _ (by rw [← e]; exact h)
/-- letters numbered anew -/
def loP (n : Nat) (O : Nat → Nat) (lo : Nat → List Nat) (l : Nat) : List Nat := (List.range n).filter fun i => (lo l).contains (O i)
theorem loP_mem {n : Nat} {O : Nat → Nat} {lo : Nat → List Nat} {l i : Nat} : i ∈ loP n O lo l ↔ i < n ∧ O i ∈ lo l := by
  unfold loP
  rw [List.mem_filter, List.mem_range, List.contains_iff_mem]
theorem loP_asc (n : Nat) (O : Nat → Nat) (lo : Nat → List Nat) (l : Nat) : Asc (loP n O lo l) := asc_filter (asc_range n)
theorem kn_nodup (n : Nat) : ((List.range n).map kn).Nodup := List.Pairwise.map _ (fun a b h e => h (kn_inj.mp e)) List.nodup_range
section
variable {P : Program} {w : World} {K : PySem.W.Frag} {mg : Str → Option Value} {base : Heap}
def sp_law_turned (K : PySem.W.Frag) : Sp := fun vs H Q _ => ∃ (pd a d : Addr) (J : List (List Nat)) (m : Nat) (lo : Nat → List Nat), vs = [.ref pd, .ref a, .ref d] ∧ PoolAt H pd ∧ TblG H a J ∧ Mon J ∧ J.length ≤ 12 ∧ LetAt H d (List.range m) lo ∧ LetOk J.length (List.range m) lo ∧ m ≤ 3 ∧
  ∀ (H' : Hp) (p rt gd pl : Addr) (O P : Nat → Nat), Same H H' → H' p = some (.tup [.ref rt, .ref gd, .ref pl]) → Renum J.length O P → TblG H' rt (tab J.length (rnF J O P)) → LetAt H' gd (List.range m) (loP J.length O lo) → H' pl = some (.lst (((List.range J.length).map P).map nV)) → Q (.ref p) H'
theorem sc_law_turned : FnScope ["_law_pool_here", "_law_joining_here", "_law_letters_here", "_law_left", "_law_order", "_law_place", "_law_rows", "_law_got", "_law_u", "_law_turn", "_law_letter", "_law_v"] ["_law_pool_here", "_law_joining_here", "_law_letters_here"] (defScope s_law_turned) := ⟨rfl, rfl, rfl, by decide +kernel, rfl, by decide +kernel, by decide +kernel⟩
theorem ok_law_turned (T : Txt K mg) : Pr P w K mg base 2 "_law_turned" ["_law_pool_here", "_law_joining_here", "_law_letters_here"] (sp_law_turned K) := by
  have G_law_draw : Pr P w K mg base 1 "_law_draw" _ _ := ok_law_draw T
  refine T.d_law_turned.pr sc_law_turned (fun vs H Q E h => ?_) (fun _ _ _ _ _ _ us hl => match us, hl with | [_, _, _], _ => rfl) (fun f cdv A outer s H vs Q E hr h => ?_)
  · obtain ⟨pd, a, d, J, m, lo, rfl, _⟩ := h
    rfl
  · obtain ⟨pd, a, d, J, m, lo, rfl, hpB, hJ, M, ln, hL, lok, m3, q⟩ := h
    have hu := hu_of hr
    refine ⟨_, (pss_cons (ps_s 3 sc_law_turned.nd (pe_listRg rfl rfl T.b_list (prg_2 rfl T.b_range pe_int (pe_callB call_len rfl T.b_len (by decide +kernel) (pa_cons (pv 1) pa_nil)))))
    (pss_cons (ps_s 4 sc_law_turned.nd (pe_op op_cat (pe_lst (pa_cons pe_int pa_nil)) (pe_lc (own := [("_law_turn", 9)]) (g := gName 9) (tt := tYes) rfl sc_law_turned.nd (pi_range1 rfl T.b_range (pa_cons (pe_op op_sub (pe_callB call_len rfl T.b_len (by decide +kernel) (pa_cons (pv 1) pa_nil)) pe_int) pa_nil)) (blkOk_by (N := ["_law_pool_here", "_law_joining_here", "_law_letters_here", "_law_left", "_law_order", "_law_place", "_law_rows", "_law_got", "_law_u", "_law_turn", "_law_letter", "_law_v"]) (sc := defScope s_law_turned) (by decide +kernel)) (fun _ _ _ _ _ => (pg_n 9 sc_law_turned.nd)) (fun _ _ _ _ _ => pts_nil) (fun _ _ _ _ _ => (pe_bmK (by rfl) PySem.F.plainAttrs_list PySem.F.slot_list_pop PySem.F.type_list_pop mt_popAt (pv 3) (pa_cons (pe_callP G_law_draw hr (by decide) (pa_cons (pv 0) (pa_cons (pe_callB (call_lenK (K := K) (by rfl)) (by rfl) T.b_len (by decide +kernel) (pa_cons (pv 3) pa_nil)) pa_nil))) pa_nil))))))
    (pss_cons (ps_s 5 sc_law_turned.nd (pe_lc (own := [("_law_u", 8)]) (g := gName 8) (tt := tYes) rfl sc_law_turned.nd (pi_range1 rfl T.b_range (pa_cons (pe_callB call_len rfl T.b_len (by decide +kernel) (pa_cons (pv 1) pa_nil)) pa_nil)) (blkOk_by (N := ["_law_pool_here", "_law_joining_here", "_law_letters_here", "_law_left", "_law_order", "_law_place", "_law_rows", "_law_got", "_law_u", "_law_turn", "_law_letter", "_law_v"]) (sc := defScope s_law_turned) (by decide +kernel)) (fun _ _ _ _ _ => (pg_n 8 sc_law_turned.nd)) (fun _ _ _ _ _ => pts_nil) (fun _ _ _ _ _ => (pe_bmK (by rfl) PySem.F.plainAttrs_list PySem.F.slot_list_index PySem.F.type_list_index (mt_indexK (K := K) (by rfl)) (pv 4) (pa_cons (pv 8) pa_nil)))))
    (pss_cons (ps_s 6 sc_law_turned.nd (pe_callTy call_tuple_of rfl T.b_tuple (by decide +kernel) (pa_cons (pe_lc (own := [("_law_u", 8)]) (g := gName 8) (tt := tYes) rfl sc_law_turned.nd (pi_list (pv 4)) (blkOk_by (N := ["_law_pool_here", "_law_joining_here", "_law_letters_here", "_law_left", "_law_order", "_law_place", "_law_rows", "_law_got", "_law_u", "_law_turn", "_law_letter", "_law_v"]) (sc := defScope s_law_turned) (by decide +kernel)) (fun _ _ _ _ _ => (pg_n 8 sc_law_turned.nd)) (fun _ _ _ _ _ => pts_nil) (fun _ _ _ _ _ => (pe_callTy (call_tuple_ofK (K := K) rfl) rfl T.b_tuple (by decide +kernel) (pa_cons (pe_lc (own := [("_law_v", 11)]) (g := gName 11) (tt := tYes) rfl sc_law_turned.nd (pi_listK (K := K) rfl (pv 4)) (blkOk_by (by rfl)) (fun _ _ _ _ _ => (pg_n 11 sc_law_turned.nd)) (fun _ _ _ _ _ => pts_nil) (fun _ _ _ _ _ => (pe_ix (ix_listK (K := K) rfl) (pv 5) (pe_ix (ix_tupK (K := K) rfl) (pe_ix (ix_tupK (K := K) rfl) (pv 1) (pv 8) (fun _ _ => rfl)) (pv 11) (fun _ _ => rfl)) (fun _ _ => rfl)))) pa_nil)))) pa_nil)))
    (pss_cons (ps_s 7 sc_law_turned.nd (pe_callTy (call_dictP rfl) rfl T.b_dict (by decide +kernel) (pa_cons (pe_lock (pe_lc (own := [("_law_letter", 10)]) (g := gName 10) (tt := tYes) rfl sc_law_turned.nd (pi_keys (pv 2)) (blkOk_by (N := ["_law_pool_here", "_law_joining_here", "_law_letters_here", "_law_left", "_law_order", "_law_place", "_law_rows", "_law_got", "_law_u", "_law_turn", "_law_letter", "_law_v"]) (sc := defScope s_law_turned) (by decide +kernel)) (fun _ _ _ _ _ => (pg_n 10 sc_law_turned.nd)) (fun _ _ _ _ _ => pts_nil) (fun _ _ _ _ _ => (pe_tup (pa_cons (pv 10) (pa_cons (pe_callTy (call_tuple_ofK (K := K) rfl) rfl T.b_tuple (by decide +kernel) (pa_cons (pe_callB (cr_sortedIK (K := K) rfl) rfl T.b_sorted (by decide +kernel) (pa_cons (pe_lc (own := [("_law_u", 8)]) (g := gName 8) (tt := tYes) rfl sc_law_turned.nd (pi_tupK (K := K) rfl (pe_dget hu (pv 2) (pv 10) (fun _ _ => rfl))) (blkOk_by (by rfl)) (fun _ _ _ _ _ => (pg_n 8 sc_law_turned.nd)) (fun _ _ _ _ _ => pts_nil) (fun _ _ _ _ _ => (pe_ix (ix_listK (K := K) rfl) (pv 5) (pv 8) (fun _ _ => rfl)))) pa_nil)) pa_nil)) pa_nil)))))) pa_nil)))
    (pss_one (ps_ret (pe_tup (pa_cons (pv 6) (pa_cons (pv 7) (pa_cons (pv 5) pa_nil))))))))))), ?_⟩
    simp only [st_c, st_n, st_0]
    have lenB : ∀ H', Same H H' → LenV K (.ref a) H' J.length := fun H' e => by
      obtain ⟨bs, h1, h2⟩ := hJ.same e
      exact .inr ⟨_, SqT.of h1, by rw [List.length_map, pairedLen h2]⟩
    have tbB : ∀ H', Same H H' → ∀ u v, u < J.length → v < J.length → ∃ (xs ys : List V) (b : Addr), SqT K H' a xs ∧ atI xs (u : Int) = some (.ref b) ∧ SqT K H' b ys ∧ atI ys (v : Int) = some (nV (jn J u v)) := fun H' e u v hu hv => by
      obtain ⟨r, e1, e2⟩ := M.at_row hu hv
      obtain ⟨xs, b, h1, h2, h3⟩ := (hJ.same e).row e1
      exact ⟨xs, _, b, SqT.of h1, h2, SqT.of h3, at_nV e2⟩
    refine ⟨_, rfl, _, J.length, rfl, (lenB H (Same.refl _)), _, _, rfl, rfl, RgOk.of_le (by omega) (by omega) (by omega) (by omega), fun l hl => ?_⟩
    rw [rg1 M.pos]
    have c1 := same_upd (o := .lst ((List.range' 1 (J.length - 1)).map nV)) hl
    have hl1 : (upd H l (.lst ((List.range' 1 (J.length - 1)).map nV))) l = some (.lst ((List.range' 1 (J.length - 1)).map nV)) := upd_same
    generalize upd H l (.lst ((List.range' 1 (J.length - 1)).map nV)) = HC0 at c1 hl1 ⊢
    refine ⟨Nat.le_of_ble_eq_true rfl, fun zl hzl => ?_⟩
    have c2 := same_upd (o := .lst [V.int 0]) hzl
    have hz2 : (upd HC0 zl (.lst [V.int 0])) zl = some (.lst [V.int 0]) := upd_same
    have hl2 := c2 _ _ hl1
    have nzl : zl ≠ l := (ne_of_none hl1 hzl).symm
    generalize upd HC0 zl (.lst [V.int 0]) = HD at c2 hz2 hl2 ⊢
    have c12 := c1.trans c2
    refine ⟨_, rfl, _, J.length, rfl, lenB HD c12, _, _, rfl, rfl, _, rfl, by omega, by omega, fun D hD => ?_⟩
    have nDl : D ≠ l := (ne_of_none hl2 hD).symm
    have nDz : D ≠ zl := (ne_of_none hz2 hD).symm
    have l0B : H l = none := hl
    have cnt : ((J.length : Int) - 1).toNat = J.length - 1 := by omega
    rw [cnt]
    refine lc_range (lo := 0) (n := J.length - 1) (fun i H' => ∃ tk lf : List Nat, (∀ b o, b ≠ l → HD b = some o → H' b = some o) ∧ H' D = some (.lst (tk.map nV)) ∧ H' l = some (.lst (lf.map nV)) ∧ tk.length = i ∧ lf.length = J.length - 1 - i ∧ (tk ++ lf).Perm (List.range' 1 (J.length - 1))) ⟨[], List.range' 1 (J.length - 1), fun b o _ e => same_upd hD _ _ e, upd_same, by rw [upd_ne nDl.symm]; exact hl2, rfl, by rw [List.length_range']; rfl, List.Perm.refl _⟩ ?_ fun HE hE => ?_
    · rintro i H4 hi ⟨tk, lf, kp, hd4, hl4, tl, ll, pm⟩
      refine ⟨rfl, tyes ?_⟩
      have p4 : PoolAt H4 pd := by
        obtain ⟨cc, cells, q1, q2⟩ := hpB
        exact ⟨cc, cells, kp _ _ (ne_of_none q1 l0B) (c12 _ _ q1), kp _ _ (ne_of_none q2 l0B) (c12 _ _ q2)⟩
      refine ⟨_, rfl, .inl ⟨rfl, _, SqL.of hl4⟩, _, rfl, _, rfl, _, lf.length, rfl, .inl ⟨_, SqL.of hl4, (List.length_map ..).symm⟩, pd, lf.length, rfl, p4, by omega, by omega, fun r hr3 => ?_⟩
      have er : lf[r]? = some lf[r] := List.getElem?_eq_getElem hr3
      refine ⟨l, _, (r : Int), r, nV lf[r], rfl, rfl, hl4, by omega, by omega, ?_, by rw [List.getElem?_map, er]; rfl, ?_⟩
      · unfold seqIndex?
        rw [List.length_map]
        simp
        omega
      rw [erase_map]
      refine ⟨tk.map nV, by rw [upd_ne nDl]; exact hd4, by rw [List.length_map]; exact Nat.lt_of_le_of_lt (show tk.length ≤ 200 by omega) (by decide), tk ++ [lf[r]], lf.eraseIdx r, fun b o nb e => ?_, by rw [upd_same, List.map_append]; rfl, by rw [upd_ne nDl.symm, upd_same], by rw [List.length_append, tl]; rfl, by rw [List.length_eraseIdx, if_pos hr3]; omega, take_perm pm er⟩
      rw [upd_ne (ne_of_none e hD), upd_ne nb]
      exact kp b o nb e
    obtain ⟨tk, lf, kp, hd4, hl4, tl, ll, pm⟩ := hE
    have lf0 : lf = [] := List.eq_nil_of_length_eq_zero (by omega)
    rw [lf0, List.append_nil] at pm
    have OR := Ordr.of M.pos pm
    have R := OR.renum
    have olen := OR.len
    have sBE : Same H HE := fun b o e => kp b o (ne_of_none e l0B) (c12 _ _ e)
    refine ⟨zl, D, _, _, rfl, rfl, kp _ _ nzl hz2, hd4, by rw [List.length_map]; exact Nat.le_trans (show 1 + tk.length ≤ 201 by omega) (by decide), fun ol hol => ?_⟩
    have eol : [V.int 0] ++ tk.map nV = (0 :: tk).map nV := rfl
    rw [eol]
    generalize 0 :: tk = ord at OR R olen ⊢
    have c3 := same_upd (o := .lst (ord.map nV)) hol
    have ho3 : (upd HE ol (.lst (ord.map nV))) ol = some (.lst (ord.map nV)) := upd_same
    generalize upd HE ol (.lst (ord.map nV)) = HF at c3 ho3 ⊢
    have sBF := sBE.trans c3
    refine ⟨_, rfl, _, J.length, rfl, lenB HF sBF, _, rfl, by omega, by omega, fun D2 hD2 => ?_⟩
    refine lc_range (lo := 0) (n := J.length) (LcP HF D2 (fun i acc _ => acc = ((List.range i).map fun u => nV (pA ord u)))) (LcP.zero hD2 rfl) ?_ fun HG hG => ?_
    · rintro u H4 hu ⟨acc, s4, hda, hle, e⟩
      rw [show (0 : Int) + (u : Int) = (u : Int) from Int.zero_add _]
      refine ⟨rfl, tyes ?_⟩
      have pl := OR.pl hu
      refine ⟨_, rfl, .inl ⟨rfl, _, SqL.of (s4 _ _ ho3)⟩, _, rfl, ol, ord.map nV, nV u, pA ord u, nV u, rfl, rfl, SqL.of (s4 _ _ ho3), rfl, ?_, ?_, ?_, ?_, ?_⟩
      · exact List.all_eq_true.mpr fun x hx => by obtain ⟨y, _, rfl⟩ := List.mem_map.mp hx; rfl
      · rw [List.getElem?_map, oA_at pl, R.op u hu]
        rfl
      · exact beq_self_eq_true _
      · intro m z hm hz
        obtain ⟨y, hy, rfl⟩ := nV_at hz
        have := OR.first hu hm hy
        show ((y : Int) == (u : Int)) = false
        rw [beq_eq_false_iff_ne]
        omega
      · refine LcP.put hD2 s4 hda hle (Nat.lt_of_lt_of_le hu (Nat.le_trans (show J.length ≤ 200 by omega) (by decide))) (Same.refl _) ?_
        rw [e, List.range_succ, List.map_append]
        rfl
    obtain ⟨acc, s3, hpl, _, e⟩ := hG
    have e2 : acc = ((List.range J.length).map (pA ord)).map nV := by rw [e, List.map_map]; rfl
    rw [e2] at hpl
    have ho4 := s3 _ _ ho3
    have sBG := sBF.trans s3
    have plAt : ∀ u, u < J.length → ((List.range J.length).map (pA ord))[u]? = some (pA ord u) := fun u hu => by
      rw [List.getElem?_map, List.getElem?_range hu]
      rfl
    refine ⟨_, rfl, ol, rfl, ⟨_, SqL.of ho4⟩, fun D3 hD3 => ?_⟩
    refine lc_it walk_list (LcP HG D3 (fun i acc H' => ∃ bs : List Addr, acc = bs.map V.ref ∧ Paired (fun b (r : List Nat) => b ≠ D3 ∧ H' b = some (.tup (r.map nV))) bs ((tab J.length (rnF J (oA ord) (pA ord))).take i))) (LcP.zero hD3 ⟨[], rfl, .nil⟩) (fun i H4 _ ⟨_, s1, _⟩ => SqL.of (s1 _ _ ho4)) ?_ fun HX hX => ?_
    · rintro i x H4 _ hi ⟨acc, s4, hda, hle, bs, rfl, hps⟩ ⟨rfl, hx⟩
      obtain ⟨u, hu, rfl⟩ := nV_at hx
      have hiJ : i < J.length := by rw [← olen]; exact (List.getElem?_eq_some_iff.mp hu).1
      have eu : u = oA ord i := by
        rw [oA_at (by omega)] at hu
        exact (Option.some.inj hu).symm
      have uJ : u < J.length := by rw [eu]; exact R.o i hiJ
      refine ⟨rfl, tyes ?_⟩
      refine ⟨_, rfl, ol, rfl, ⟨_, SqL.of (s4 _ _ ho4)⟩, fun D4 hD4 => ?_⟩
      have ho5 := s4 _ _ ho4
      refine lc_it walk_list (LcP _ D4 (fun j acc _ => acc = ((List.range j).map fun j => nV (rnF J (oA ord) (pA ord) i j)))) (LcP.zero hD4 rfl) (fun j H5 _ ⟨_, s1, _⟩ => SqL.of (s1 _ _ ho5)) ?_ fun HY hY => ?_
      · rintro j x H5 _ hj ⟨acc, s5, hda5, hle5, e5⟩ ⟨rfl, hx⟩
        obtain ⟨v, hv, rfl⟩ := nV_at hx
        have hjJ : j < J.length := by rw [← olen]; exact (List.getElem?_eq_some_iff.mp hv).1
        have ev : v = oA ord j := by
          rw [oA_at (by omega)] at hv
          exact (Option.some.inj hv).symm
        have vJ : v < J.length := by rw [ev]; exact R.o j hjJ
        refine ⟨rfl, tyes ?_⟩
        obtain ⟨xs, ys, b, q1, q2, q3, q4⟩ := tbB _ (sBG.trans (s4.trans s5)) u v uJ vJ
        refine ⟨_, rfl, _, rfl, _, rfl, _, _, _, _, rfl, rfl, q1, q2, _, rfl, _, _, _, _, rfl, rfl, q3, q4, D2, _, _, nV (pA ord (jn J u v)), rfl, rfl, SqL.of ((s4.trans s5) _ _ hpl), at_nV (plAt _ (M.lt u v uJ vJ)), ?_⟩
        refine LcP.put hD4 s5 hda5 hle5 (Nat.lt_of_lt_of_le hjJ (Nat.le_trans (show J.length ≤ 200 by omega) (by decide))) (Same.refl _) ?_
        rw [e5, range_snoc, eu, ev]
        rfl
      obtain ⟨acc5, s5, hda5, _, e5⟩ := hY
      rw [List.length_map, olen] at e5
      refine ⟨D4, _, rfl, .inl ⟨SqL.of hda5, fun tp htp => ?_⟩⟩
      have t6 := same_upd (o := .tup acc5) htp
      have nt : tp ≠ D3 := (ne_of_none (s5 _ _ hda) htp).symm
      refine LcP.put hD3 s4 hda hle (Nat.lt_of_lt_of_le hiJ (Nat.le_trans (show J.length ≤ 200 by omega) (by decide))) (s5.trans t6) ⟨bs ++ [tp], by rw [List.map_append]; rfl, ?_⟩
      rw [tab_take hiJ]
      refine pairedSnoc (Paired.mapP hps fun c r ⟨q1, q2⟩ => ⟨q1, by rw [upd_ne q1]; exact (s5.trans t6) _ _ q2⟩) ⟨nt, ?_⟩
      rw [upd_ne nt, upd_same, e5, List.map_map]
      rfl
    obtain ⟨acc, sX, hdX, _, bs, rfl, hps⟩ := hX
    rw [List.length_map, olen, List.take_of_length_le (by rw [tab_len]; exact Nat.le_refl _)] at hps
    refine ⟨D3, _, rfl, .inl ⟨SqL.of hdX, fun rt hrt => ?_⟩⟩
    have cX := same_upd (o := .tup (bs.map V.ref)) hrt
    have tG : TblG (upd HX rt (.tup (bs.map V.ref))) rt (tab J.length (rnF J (oA ord) (pA ord))) := ⟨bs, upd_same, Paired.mapP hps fun _ _ q => cX _ _ q.2⟩
    have sBX := sBG.trans (sX.trans cX)
    have hplX := (sX.trans cX) _ _ hpl
    generalize upd HX rt (.tup (bs.map V.ref)) = HZ at tG sBX hplX ⊢
    -- the letters
    obtain ⟨kvs, hd, hkeys, hval⟩ := hL.ex
    have hdZ := sBX _ _ hd
    refine ⟨d, _, hdZ, trivial, fun od => ?_⟩
    have hd0 : (upd HZ d (.frz od (.dK kvs))) d = some (.frz od (.dK kvs)) := upd_same
    have kl : kvs.length = m := by have := congrArg List.length hkeys; simpa using this
    have hb0 : ∀ (l : Nat) (b : Addr), H b = some (.tup ((lo l).map nV)) → (upd HZ d (.frz od (.dK kvs))) b = some (.tup ((lo l).map nV)) := fun l b z => by
      rw [upd_ne (fun e => by rw [e, hd] at z; cases z)]
      exact sBX _ _ z
    have hpl0 : (upd HZ d (.frz od (.dK kvs))) D2 = some (.lst (((List.range J.length).map (pA ord)).map nV)) := by
      rw [upd_ne (fun e => by rw [e, hdZ] at hplX; cases hplX)]
      exact hplX
    refine ⟨_, rfl, d, od, rfl, .inl ⟨kvs, hd0, fun D5 hD5 => ?_⟩⟩
    refine lc_it walk_keys (LcP (upd HZ d (.frz od (.dK kvs))) D5 (fun i acc H' => ∃ (ps : List Addr) (qs : List (Key × V)), acc = ps.map V.ref ∧ Paired (fun p (kv : Key × V) => p ≠ D5 ∧ H' p = some (.tup [kV kv.1, kv.2])) ps qs ∧ qs.map (·.1) = (List.range i).map kn ∧
      ∀ l, l < i → ∃ t, valV qs (kn l) = some (.ref t) ∧ t ≠ D5 ∧ H' t = some (.tup ((loP J.length (oA ord) lo l).map nV)))) (LcP.zero hD5 ⟨[], [], rfl, .nil, rfl, fun l h => absurd h (Nat.not_lt_zero _)⟩) (fun i H' _ ⟨_, s1, _⟩ => s1 _ _ hd0) ?_ fun H3 h3 => ?_
    · rintro i x _ H4 hi ⟨acc, s4, hda, hle, ps, qs, rfl, hps, hqk, hqv⟩ ⟨rfl, ky, v, hkv, rfl⟩
      have im : i < m := by rw [← kl]; exact hi
      have eky : ky = kn i := by
        have hm : (kvs.map (·.1))[i]? = some ky := by rw [List.getElem?_map, hkv]; rfl
        rw [hkeys, List.getElem?_map, List.getElem?_range im] at hm
        exact (Option.some.inj hm).symm
      subst eky
      obtain ⟨b, hb1, hb2⟩ := hval i (List.mem_range.mpr im)
      have hb4 := s4 _ _ (hb0 i b hb2)
      refine ⟨rfl, tyes ?_⟩
      refine ⟨_, rfl, _, rfl, _, rfl, d, _, rfl, .inl ⟨kvs, kn i, .inr ⟨od, s4 _ _ hd0⟩, rfl, hb1.symm⟩, b, rfl, ⟨_, SqT.of hb4⟩, fun D6 hD6 => ?_⟩
      refine lc_it walk_tup (LcP _ D6 (fun j acc _ => acc = (((lo i).take j).map fun u => nV (pA ord u)))) (LcP.zero hD6 rfl) (fun j H5 _ ⟨_, s5, _⟩ => SqT.of (s5 _ _ hb4)) ?_ fun H5 h5 => ?_
      · rintro j z _ H5 hj ⟨acc5, s5, hda5, hle5, e5⟩ ⟨rfl, hz⟩
        obtain ⟨u, hu2, rfl⟩ := nV_at hz
        have uJ := lok.lt i u (List.mem_of_getElem? hu2)
        refine ⟨rfl, tyes ?_⟩
        refine ⟨_, rfl, _, rfl, D2, _, _, nV (pA ord u), rfl, rfl, SqL.of ((s4.trans s5) _ _ hpl0), at_nV (plAt _ uJ), ?_⟩
        refine LcP.put hD6 s5 hda5 hle5 (Nat.lt_of_lt_of_le hj (by rw [List.length_map]; exact Nat.le_trans (asc_len (lok.lt i) (lok.asc i)) (Nat.le_trans ln (by decide)))) (Same.refl _) ?_
        rw [e5]
        exact take_succ_map hu2
      obtain ⟨acc5, s5, hda5, _, e5⟩ := h5
      rw [List.length_map, List.take_length] at e5
      have e6 : acc5 = (((lo i).map (pA ord)).map fun (x : Nat) => (x : Int)).map V.int := by rw [e5, List.map_map, List.map_map]; rfl
      refine ⟨D6, ((lo i).map (pA ord)).map fun (x : Nat) => (x : Int), rfl, SqL.of (by rw [← e6]; exact hda5), fun ys p hperm hsort hp => ?_⟩
      obtain ⟨hs, rfl, hl3, hm3⟩ := sorted_N hperm
      rw [mapV]
      have ndp : ((lo i).map (pA ord)).Nodup := by
        refine (List.pairwise_map.mpr ?_)
        refine (asc_nodup (lok.asc i)).imp_of_mem fun {x y} hx hy hne e => hne ?_
        rw [← R.op x (lok.lt i x hx), ← R.op y (lok.lt i y hy), e]
      have eloP : hs = loP J.length (oA ord) lo i := by
        refine asc_ext (sort_up hperm hsort ndp) (loP_asc ..) fun x => ?_
        rw [hm3, loP_mem, List.mem_map]
        constructor
        · rintro ⟨u, hu2, rfl⟩
          have uJ := lok.lt i u hu2
          exact ⟨R.p u uJ, by rw [R.op u uJ]; exact hu2⟩
        · rintro ⟨xJ, hx⟩
          exact ⟨oA ord x, hx, R.po x xJ⟩
      rw [eloP]
      refine ⟨p, _, rfl, .inl ⟨SqL.of upd_same, fun t ht => ?_⟩⟩
      have c6 : Same _ _ := s5.trans ((same_upd hp).trans (same_upd (o := .tup ((loP J.length (oA ord) lo i).map nV)) ht))
      have tD : t ≠ D5 := (ne_of_none (((s5.trans (same_upd hp))) _ _ hda) ht).symm
      refine ⟨Nat.le_of_ble_eq_true rfl, fun tp htp => ?_⟩
      have c7 := c6.trans (same_upd (o := .tup [kV (kn i), .ref t]) htp)
      have tpD : tp ≠ D5 := (ne_of_none (c6 _ _ hda) htp).symm
      have new : valV qs (kn i) = none := valV_out _ _ (by rw [hqk]; intro z; obtain ⟨y, hy, ey⟩ := List.mem_map.mp z; have := kn_inj.mp ey; have := List.mem_range.mp hy; omega)
      have ht7 := same_upd (o := .tup [kV (kn i), .ref t]) htp _ _ (upd_same (a := t) (o := .tup ((loP J.length (oA ord) lo i).map nV)))
      refine LcP.put hD5 s4 hda hle (Nat.lt_of_lt_of_le im (Nat.le_trans m3 (by decide))) c7 ⟨ps ++ [tp], qs ++ [(kn i, .ref t)], by rw [List.map_append]; rfl, pairedSnoc (Paired.mapP hps fun c kv ⟨z1, z2⟩ => ⟨z1, by rw [upd_ne z1]; exact c7 _ _ z2⟩) ⟨tpD, by rw [upd_ne tpD]; exact upd_same⟩, by rw [List.map_append, hqk, List.range_succ, List.map_append]; rfl, fun l hl => ?_⟩
      rw [← putK_new _ new, valV_put]
      by_cases e : l = i
      · subst e
        rw [if_pos rfl]
        exact ⟨t, rfl, tD, by rw [upd_ne tD]; exact ht7⟩
      · rw [if_neg fun z => e (kn_inj.mp z)]
        obtain ⟨t2, z1, z2, z3⟩ := hqv l (by omega)
        exact ⟨t2, z1, z2, by rw [upd_ne z2]; exact c7 _ _ z3⟩
    obtain ⟨acc, s3d, hda, _, ps, qs, rfl, hps, hqk, hqv⟩ := h3
    rw [kl] at hqk hqv
    obtain ⟨u1, u2⟩ := unfrz hdZ s3d
    refine ⟨u1, ?_⟩
    have nDd : D5 ≠ d := fun e => by rw [e, u1] at hda; cases hda
    have ntd : ∀ b xs, H3 b = some (.tup xs) → b ≠ d := fun b xs z e => by rw [e, u1] at z; cases z
    refine ⟨D5, ps, qs, rfl, SqL.of (by rw [upd_ne nDd]; exact hda), Paired.mapP hps fun c kv ⟨_, z⟩ => SqT.of (by rw [upd_ne (ntd _ _ z)]; exact z), fun gd hgd => ?_⟩
    have em : mergeK [] qs = qs := merge_app qs [] (by rw [List.nil_append, hqk]; exact kn_nodup m)
    rw [em]
    have c8 : Same _ _ := same_upd (o := .dK qs) hgd
    refine ⟨_, rfl, _, rfl, _, rfl, Nat.le_of_ble_eq_true rfl, fun p hp => ?_⟩
    have c9 := u2.trans (c8.trans (same_upd (o := .tup [.ref rt, .ref gd, .ref D2]) hp))
    have c10 := same_upd (o := .tup [.ref rt, .ref gd, .ref D2]) hp
    refine q _ p rt gd D2 (oA ord) (pA ord) (sBX.trans c9) upd_same R (tG.same c9) ⟨qs, c10 _ _ upd_same, hqk, fun l hl => ?_⟩ (c9 _ _ hplX)
    obtain ⟨t, z1, _, z3⟩ := hqv l (List.mem_range.mp hl)
    exact ⟨t, z1, c10 _ _ (c8 _ _ (by rw [upd_ne (ntd _ _ z3)]; exact z3))⟩
end
end UC
set_option Elab.async false
set_option linter.all false
set_option maxRecDepth 100000
set_option maxHeartbeats 4000000
/-! Plain laws: closed sets of kinds, houses numbered anew, what a lot allows. -/
namespace UC
open PySem PySem.Spec PyProof.Rows L2
theorem mem_stN_ar {J : List (List Nat)} {lo : Nat → List Nat} {a b : Kd} {u : Nat} : u ∈ stN J lo (.ar a b) ↔ u < J.length ∧ ∀ v ∈ stN J lo a, jn J u v ∈ stN J lo b := by
  show u ∈ (List.range J.length).filter _ ↔ _
  rw [List.mem_filter, List.mem_range, List.all_eq_true]
  simp only [List.contains_iff_mem]
theorem stN_closed {J S : List (List Nat)} {N : List Nat} {lo : Nat → List Nat} (M : Mon J) (sev : SevN J S N) (lt : ∀ l, ∀ x ∈ lo l, x < J.length) (cl : ∀ l, ClN J S (lo l)) : ∀ k, ClN J S (stN J lo k)
  | .lt n => cl n
  | .ar a b => fun u v hu hv ⟨w, hw, h⟩ => by
    have wl := (sev_at sev hv).2.2 w hw
    rw [mem_stN_ar] at h ⊢
    refine ⟨M.lt u v hu hv, fun x hx => ?_⟩
    have xl := stN_lt lt a x hx
    have h1 := h.2 x hx
    rw [M.assoc u w x hu wl xl, M.comm w x wl xl, ← M.assoc u x w hu xl wl] at h1
    have h2 := stN_closed M sev lt cl b (jn J u x) v (M.lt u x hu xl) hv ⟨w, hw, h1⟩
    rw [M.assoc u x v hu xl hv, M.comm x v xl hv, ← M.assoc u v x hu hv xl] at h2
    exact h2
/-- kinds in a house numbered anew -/
theorem stN_renum {J : List (List Nat)} {lo : Nat → List Nat} {O P : Nat → Nat} (M : Mon J) (R : Renum J.length O P) (lt : ∀ l, ∀ x ∈ lo l, x < J.length) : ∀ (k : Kd) (i : Nat), i ∈ stN (tab J.length (rnF J O P)) (loP J.length O lo) k ↔ i < J.length ∧ O i ∈ stN J lo k
  | .lt n, i => loP_mem
  | .ar a b, i => by
    rw [mem_stN_ar, mem_stN_ar, tab_len]
    constructor
    · rintro ⟨hi, h⟩
      refine ⟨hi, R.o i hi, fun x hx => ?_⟩
      have xl := stN_lt lt a x hx
      have e := R.op x xl
      have h1 := h (P x) ((stN_renum M R lt a (P x)).mpr ⟨R.p x xl, by rw [e]; exact hx⟩)
      rw [tab_jn hi (R.p x xl)] at h1
      have h2 := ((stN_renum M R lt b _).mp h1).2
      unfold rnF at h2
      rw [e, R.op _ (M.lt _ _ (R.o i hi) xl)] at h2
      exact h2
    · rintro ⟨hi, _, h⟩
      refine ⟨hi, fun j hj => ?_⟩
      obtain ⟨jl, hj2⟩ := (stN_renum M R lt a j).mp hj
      rw [tab_jn hi jl]
      refine (stN_renum M R lt b _).mpr ⟨R.p _ (M.lt _ _ (R.o i hi) (R.o j jl)), ?_⟩
      unfold rnF
      rw [R.op _ (M.lt _ _ (R.o i hi) (R.o j jl))]
      exact h _ hj2
theorem loP_ok {J : List (List Nat)} {m : Nat} {lo : Nat → List Nat} {O : Nat → Nat} (ok : LetOk J.length (List.range m) lo) : LetOk J.length (List.range m) (loP J.length O lo) := by
  refine ⟨ok.key, fun l => loP_asc .., fun l x hx => (loP_mem.mp hx).1, fun l hl => ?_⟩
  unfold loP
  rw [ok.out l hl]
  exact List.filter_eq_nil_iff.mpr fun x _ => by simp
theorem ml_renum {J : List (List Nat)} {O P : Nat → Nat} (M : Mon J) (R : Renum J.length O P) {i : Nat} (hi : i < J.length) : ∀ s, ml (tab J.length (rnF J O P)) s i < J.length ∧ O (ml (tab J.length (rnF J O P)) s i) = ml J s (O i)
  | 0 => ⟨M.pos, R.z⟩
  | s + 1 => by
    obtain ⟨h1, h2⟩ := ml_renum M R hi s
    have e : ml (tab J.length (rnF J O P)) (s + 1) i = P (jn J (ml J s (O i)) (O i)) := by
      show jn (tab J.length (rnF J O P)) (ml (tab J.length (rnF J O P)) s i) i = _
      rw [tab_jn h1 hi]
      show P (jn J (O (ml (tab J.length (rnF J O P)) s i)) (O i)) = _
      rw [h2]
    have l1 := M.lt _ _ (M.ml_lt (R.o i hi) s) (R.o i hi)
    rw [e]
    exact ⟨R.p _ l1, R.op _ l1⟩
theorem law_renum {J : List (List Nat)} {ks : List Nat} {lo : Nat → List Nat} {O P : Nat → Nat} {z : Str} {ms : List Nat} (M : Mon J) (R : Renum J.length O P) (h : LawOk z ms J ks lo) : LawOk z ms (tab J.length (rnF J O P)) ks (loP J.length O lo) := by
  intro l hl v hv s hs x hx hm
  rw [tab_len] at hv hx hs
  obtain ⟨h1, h2⟩ := ml_renum M R hv s
  rw [tab_jn h1 hx] at hm
  rw [tab_jn hv hx]
  have hm2 : O (P (jn J (O (ml (tab J.length (rnF J O P)) s v)) (O x))) ∈ lo l := (loP_mem.mp hm).2
  show P (jn J (O v) (O x)) ∈ _
  rw [h2, R.op _ (M.lt _ _ (M.ml_lt (R.o v hv) s) (R.o x hx))] at hm2
  have h3 := h l hl (O v) (R.o v hv) s hs (O x) (R.o x hx) hm2
  have l3 := M.lt _ _ (R.o v hv) (R.o x hx)
  exact loP_mem.mpr ⟨R.p _ l3, by rw [R.op _ l3]; exact h3⟩
theorem Sm.mono {ns ms : List Nat} (h : ∀ n ∈ ns, n ∈ ms) {k s : Nat} (t : Sm ns k s) : Sm ms k s := by
  induction t with
  | one => exact .one
  | put m _ ih => exact .put (h _ m) ih
theorem Sm.le {ms : List Nat} (h : ∀ m ∈ ms, m ≤ 4) {k s : Nat} (t : Sm ms k s) : s ≤ 1 + 4 * k := by
  induction t with
  | one => exact Nat.le_refl _
  | put m _ ih =>
    have := h _ m
    omega
/-- what is held is among the numbers -/
theorem held_num {z : Str} {ns ms L : List Nat} {n s : Nat} (sub : ∀ x ∈ ns, x ∈ ms) (le : ∀ m ∈ ms, m ≤ 4) (hn : n ≤ 12) (ok : NumsOk z ms L) (h : HeldP z ns n s) : s ∈ L := by
  rcases h with ⟨e, rfl⟩ | ⟨e, h⟩ | ⟨e, h⟩ | ⟨e, k, hk, t⟩
  · exact ok.all 1 (by omega) (.inl ⟨e, rfl⟩)
  · exact ok.all s (by omega) (.inr (.inl ⟨e, h⟩))
  · exact ok.all s (by omega) (.inr (.inr (.inl e)))
  · have t2 := t.mono sub
    have := t2.le le
    exact ok.all s (by omega) (.inr (.inr (.inr ⟨e, k, t2⟩)))
theorem law_of {J S : List (List Nat)} {z : Str} {ns ms L ks : List Nat} {lo : Nat → List Nat} (M : Mon J) (hn : J.length ≤ 12) (sev : SevN J S L) (ok : NumsOk z ms L) (sub : ∀ x ∈ ns, x ∈ ms) (le : ∀ m ∈ ms, m ≤ 4) (cl : ∀ l, ClN J S (lo l)) : LawOk z ns J ks lo := by
  intro l _ v hv s hs x hx hm
  obtain ⟨e1, _, _⟩ := sev_at sev hv
  have hin := (sev.at_ v _ e1).2.2 s (held_num sub le hn ok hs)
  rw [M.comm _ _ (M.ml_lt hv s) hx] at hm
  rw [M.comm v x hv hx]
  exact cl l x v hx hv ⟨_, hin, hm⟩
/-- the great house -/
def gJ (n : Nat) : List (List Nat) := tab n fun u v => (u + v) % n
theorem gJ_len (n : Nat) : (gJ n).length = n := tab_len ..
theorem gJ_mon {n : Nat} (h : 0 < n) : Mon (gJ n) := rest_mon h
theorem gJ_ml {n v : Nat} (h : 0 < n) (hv : v < n) : ∀ s, ml (gJ n) s v = (s * v) % n
  | 0 => by rw [Nat.zero_mul, Nat.zero_mod]; rfl
  | s + 1 => by
    show jn (gJ n) (ml (gJ n) s v) v = _
    rw [gJ_ml h hv s]
    unfold gJ
    rw [tab_jn (Nat.mod_lt _ h) hv, Nat.mod_add_mod, Nat.succ_mul]
theorem Sm.mod {ms : List Nat} {t : Nat} (h : ∀ m ∈ ms, m = t) {k s : Nat} (q : Sm ms k s) : s % t = 1 % t := by
  induction q with
  | one => rfl
  | put m _ ih => rw [h _ m, Nat.add_mod_right, ih]
theorem great_law {n t : Nat} {ks : List Nat} {lo : Nat → List Nat} {ns : List Nat} {R : Nat → List Nat} (hn : 0 < n) (ht : t ∣ n) (sub : ∀ m ∈ ns, m = t) (hlo : ∀ l u, u ∈ lo l ↔ u < n ∧ u % t ∈ R l) : LawOk "more" ns (gJ n) ks lo := by
  intro l _ v hv s hs x hx hm
  rw [gJ_len] at hv hx
  rcases hs with ⟨e, _⟩ | ⟨e, _⟩ | ⟨e, _⟩ | ⟨_, k, _, q⟩
  · exact absurd e (by decide +kernel)
  · exact absurd e (by decide +kernel)
  · exact absurd e (by decide +kernel)
  · rw [gJ_ml hn hv] at hm
    unfold gJ at hm ⊢
    rw [tab_jn (Nat.mod_lt _ hn) hx] at hm
    rw [tab_jn hv hx]
    have h2 := (hlo l _).mp hm
    refine (hlo l _).mpr ⟨Nat.mod_lt _ hn, ?_⟩
    have e := q.mod sub
    have e1 : ((s * v) % n + x) % n % t = (v + x) % n % t := by
      rw [Nat.mod_mod_of_dvd _ ht, Nat.mod_mod_of_dvd _ ht, Nat.add_mod, Nat.mod_mod_of_dvd _ ht, Nat.mul_mod, e, ← Nat.mul_mod, Nat.one_mul, ← Nat.add_mod]
    rw [← e1]
    exact h2.2
end UC
set_option Elab.async false
set_option linter.all false
set_option maxRecDepth 100000
set_option maxHeartbeats 8000000
/-! One kind asked of two houses. -/
namespace UC
open PySem PySem.Spec PyProof.Rows L2
section
variable {P : Program} {w : World} {K : PySem.W.Frag} {mg : Str → Option Value} {base : Heap}
/-- a house of the law, and what it was made of -/
structure HsAt (K : PySem.W.Frag) (H : Hp) (hp lp ja d : Addr) (J : List (List Nat)) (m : Nat) (lo : Nat → List Nat) : Prop where
  h : HouseAt K H hp lp J lo
  t : TblG H ja J
  l : LetAt H d (List.range m) lo
  ok : LetOk J.length (List.range m) lo
  M : Mon J
theorem HsAt.same {H H' : Hp} {hp lp ja d : Addr} {J : List (List Nat)} {m : Nat} {lo : Nat → List Nat} (e : Same H H') (h : HsAt K H hp lp ja d J m lo) : HsAt K H' hp lp ja d J m lo := ⟨h.h.same e, h.t.same e, h.l.same e, h.ok, h.M⟩
def sp_law_one_right (K : PySem.W.Frag) (w : World) : Sp := fun vs H Q _ => ∃ (pd hp lp ja d sa hp2 lp2 pl : Addr) (J S : List (List Nat)) (N : List Nat) (m : Nat) (lo : Nat → List Nat) (O P : Nat → Nat) (k : Kd) (v : V), vs = [.ref pd, .ref hp, .ref ja, .ref d, .ref sa, v, .ref hp2, .ref pl] ∧
  HsAt K H hp lp ja d J m lo ∧ J.length ≤ 12 ∧ TblH H sa S ∧ SevN J S N ∧ (∀ l, ClN J S (lo l)) ∧ KdAt H k v ∧ k.lets 26 ∧ k.size ≤ 10 ∧ k.calm w ∧ Renum J.length O P ∧ HouseAt K H hp2 lp2 (tab J.length (rnF J O P)) (loP J.length O lo) ∧
  H pl = some (.lst (((List.range J.length).map P).map nV)) ∧ ∀ H', Same H H' → Q (.bl true) H'
theorem sc_law_one_right : FnScope ["_law_pool_here", "_law_house", "_law_joining_here", "_law_letters_here", "_law_several", "_law_kind_here", "_law_other", "_law_place", "_law_due", "_law_told", "_law_u"] ["_law_pool_here", "_law_house", "_law_joining_here", "_law_letters_here", "_law_several", "_law_kind_here", "_law_other", "_law_place"] (defScope s_law_one_right) := ⟨rfl, rfl, rfl, by decide +kernel, rfl, by decide +kernel, by decide +kernel⟩
theorem ok_law_one_right (T : Txt K mg) : Pr P w K mg base 11 "_law_one_right" ["_law_pool_here", "_law_house", "_law_joining_here", "_law_letters_here", "_law_several", "_law_kind_here", "_law_other", "_law_place"] (sp_law_one_right K w) := by
  have G_law_stands : Pr P w K mg base 10 "_law_stands" _ _ := ok_law_stands T 9 (by decide)
  have G_stands_with : Pr P w K mg base 5 "stands_with" _ _ := ok_stands_with T
  have G_law_is_int : Pr P w K mg base 1 "_law_is_int" _ _ := ok_law_is_int T
  have G_law_closed : Pr P w K mg base 1 "_law_closed" _ _ := ok_law_closed T
  refine T.d_law_one_right.pr sc_law_one_right (fun vs H Q E h => ?_) (fun _ _ _ _ _ _ us hl => match us, hl with | [_, _, _, _, _, _, _, _], _ => rfl) (fun f cdv A outer s H vs Q E hr h => ?_)
  · obtain ⟨pd, hp, lp, ja, d, sa, hp2, lp2, pl, J, S, N, m, lo, O, P, k, v, rfl, _⟩ := h
    rfl
  · obtain ⟨pd, hp, lp, ja, d, sa, hp2, lp2, pl, J, S, N, m, lo, O, P, k, v, rfl, hs, hn, hS, sev, cl, hk, kl, kz, kc, R, h2, hpl, q⟩ := h
    have hu64 := roomU hr
    refine ⟨_, (pss_cons (ps_s 8 sc_law_one_right.nd (pe_callP G_law_stands hr (by decide) (pa_cons (pv 2) (pa_cons (pv 3) (pa_cons (pv 5) pa_nil)))))
    (pss_cons (ps_s 9 sc_law_one_right.nd (pe_callP G_stands_with hr (by decide) (pa_cons (pv 1) (pa_cons (pv 5) pa_nil))))
    (pss_cons (ps_if (PW.pt (pw_or (pt_not (pt_val (pe_callB call_isi rfl T.b_isinstance (by decide +kernel) (pa_cons (pv 9) (pa_cons (pe_bltn (v := .ty "tuple") (by rfl) T.b_tuple (by decide +kernel) rfl) pa_nil))))) (pw_or (pt_cmpR (op_neD hu64) (pe_callTy call_list_of rfl T.b_list (by decide +kernel) (pa_cons (pv 9) pa_nil)) (pv 8) (nomark _)) (pw_or1 (pt_not (pt_val (pe_callB (cr_all rfl) rfl T.b_all (by decide +kernel) (pa_cons (pe_lc (own := [("_law_u", 10)]) (g := gName 10) (tt := tYes) rfl sc_law_one_right.nd (pi_tup (pv 9)) (blkOk_by (N := ["_law_pool_here", "_law_house", "_law_joining_here", "_law_letters_here", "_law_several", "_law_kind_here", "_law_other", "_law_place", "_law_due", "_law_told", "_law_u"]) (sc := defScope s_law_one_right) (by decide +kernel)) (fun _ _ _ _ _ => (pg_n 10 sc_law_one_right.nd)) (fun _ _ _ _ _ => pts_nil) (fun _ _ _ _ _ => (pe_callP G_law_is_int hr (by decide) (pa_cons (pv 10) (pa_cons pe_int (pa_cons pe_int pa_nil)))))) pa_nil))))))))
      (pss_one (ps_ret pe_bl))
      pss_nil)
    (pss_cons (ps_if (pt_cmpR (op_neD hu64) (pe_callTy call_list_of rfl T.b_list (by decide +kernel) (pa_cons (pe_callP G_stands_with hr (by decide) (pa_cons (pv 6) (pa_cons (pv 5) pa_nil))) pa_nil)) (pe_callB cr_sortedI rfl T.b_sorted (by decide +kernel) (pa_cons (pe_lc (own := [("_law_u", 10)]) (g := gName 10) (tt := tYes) rfl sc_law_one_right.nd (pi_list (pv 8)) (blkOk_by (N := ["_law_pool_here", "_law_house", "_law_joining_here", "_law_letters_here", "_law_several", "_law_kind_here", "_law_other", "_law_place", "_law_due", "_law_told", "_law_u"]) (sc := defScope s_law_one_right) (by decide +kernel)) (fun _ _ _ _ _ => (pg_n 10 sc_law_one_right.nd)) (fun _ _ _ _ _ => pts_nil) (fun _ _ _ _ _ => (pe_ix (ix_listK (K := K) rfl) (pv 7) (pv 10) (fun _ _ => rfl)))) pa_nil)) (nomark _))
      (pss_one (ps_ret pe_bl))
      pss_nil)
    (pss_one (ps_ret (pe_cmpR (op_eqD hu64) (pe_callP G_law_closed hr (by decide) (pa_cons (pv 2) (pa_cons (pv 4) (pa_cons (pv 8) pa_nil)))) (pv 8) (nomark _)))))))), ?_⟩
    simp only [st_c, st_n, st_0]
    have M := hs.M
    have dk : k.depth ≤ 9 := by have := Kd.depth_lt k; omega
    have asc := stN_asc (J := J) hs.ok.asc k
    have lt := stN_lt (J := J) hs.ok.lt k
    have dl : (stN J lo k).length ≤ 12 := Nat.le_trans (asc_len lt asc) hn
    have hOk : HsOk J lo := ⟨M, by omega, hs.ok.asc, hs.ok.lt⟩
    have M2 := renum_mon M R
    have ok2 := loP_ok (O := O) hs.ok
    have hOk2 : HsOk (tab J.length (rnF J O P)) (loP J.length O lo) := ⟨M2, by rw [tab_len]; omega, ok2.asc, by rw [tab_len]; exact ok2.lt⟩
    refine ⟨_, rfl, _, rfl, _, rfl, ja, d, J, List.range m, lo, k, v, rfl, hs.t, M, by omega, hs.l, hs.ok, hk, dk, fun H1 p1 s1 hp1 => ?_⟩
    refine ⟨_, rfl, _, rfl, hp, lp, J, lo, k, v, rfl, hs.h.same s1, hOk, hk.same s1, kl, Nat.le_trans kz (by decide), kc, fun H2 p2 s2 hp2' => ?_⟩
    have s12 := s1.trans s2
    refine ⟨_, rfl, _, _, _, _, true, rfl, .ty _, .base (.tup hp2'), kit_ty (by decide +kernel), true, rfl, iteF ?_⟩
    refine ⟨_, rfl, p2, _, rfl, .inr (SqT.of hp2'), fun q1 hq1 => ?_⟩
    have t3 := same_upd (o := .lst ((stN J lo k).map nV)) hq1
    refine ⟨_, rfl, rNeL (SqL.of upd_same) (SqL.of (t3 _ _ (s2 _ _ hp1))) ?_⟩
    refine ⟨false, by simp, iteF ?_⟩
    have s13 := s12.trans t3
    have hp3 := t3 _ _ hp2'
    have hp13 := t3 _ _ (s2 _ _ hp1)
    generalize upd H2 q1 (.lst ((stN J lo k).map nV)) = H3 at s13 hp3 hp13 ⊢
    refine ⟨_, rfl, p2, rfl, ⟨_, SqT.of hp3⟩, fun D hD => ?_⟩
    refine lc_it walk_tup (LcP H3 D (RB true)) (LcP.zero hD rfl) (fun i H4 _ ⟨_, s4, _⟩ => SqT.of (s4 _ _ hp3)) ?_ fun H4 h4 => ?_
    · rintro i x H4 _ hi ⟨acc, s4, hda, hle, e⟩ ⟨rfl, hx⟩
      obtain ⟨u, hu, rfl⟩ := nV_at hx
      have ul := lt u (List.mem_of_getElem? hu)
      refine ⟨rfl, tyes ?_⟩
      refine ⟨_, rfl, (u : Int), 0, 200, rfl, ?_⟩
      rw [decide_eq_true (show (0 : Int) ≤ (u : Int) ∧ (u : Int) ≤ 200 from ⟨by omega, by omega⟩)]
      exact putB hD s4 hda hle e (Nat.lt_of_lt_of_le hi (by rw [List.length_map]; exact Nat.le_trans dl (by decide))) (Same.refl _)
    obtain ⟨cs, hq, eb, s4⟩ := finAll (K := K) h4
    refine ⟨D, cs, rfl, hq, ?_⟩
    rw [eb]
    refine ⟨true, rfl, iteF ?_⟩
    have s14 := s13.trans s4
    have hp14 := s4 _ _ hp13
    refine ⟨_, rfl, _, rfl, hp2, lp2, _, _, k, v, rfl, h2.same s14, hOk2, hk.same s14, kl, Nat.le_trans kz (by decide), kc, fun H5 p5 s5 hp5 => ?_⟩
    refine ⟨p5, _, rfl, .inr (SqT.of hp5), fun q6 hq6 => ?_⟩
    have t6 := same_upd (o := .lst ((stN (tab J.length (rnF J O P)) (loP J.length O lo) k).map nV)) hq6
    have hq6' : (upd H5 q6 (.lst ((stN (tab J.length (rnF J O P)) (loP J.length O lo) k).map nV))) q6 = some (.lst ((stN (tab J.length (rnF J O P)) (loP J.length O lo) k).map nV)) := upd_same
    have s16 := s14.trans (s5.trans t6)
    have hp16 := t6 _ _ (s5 _ _ hp14)
    generalize upd H5 q6 (.lst ((stN (tab J.length (rnF J O P)) (loP J.length O lo) k).map nV)) = H6 at s16 hp16 hq6' ⊢
    refine ⟨_, rfl, p1, rfl, ⟨_, SqL.of hp16⟩, fun D2 hD2 => ?_⟩
    refine lc_it walk_list (LcP H6 D2 (fun i acc _ => acc = ((stN J lo k).take i).map fun u => nV (P u))) (LcP.zero hD2 rfl) (fun i H7 _ ⟨_, s7, _⟩ => SqL.of (s7 _ _ hp16)) ?_ fun H7 h7 => ?_
    · rintro i x H7 _ hi ⟨acc, s7, hda, hle, e⟩ ⟨rfl, hx⟩
      obtain ⟨u, hu, rfl⟩ := nV_at hx
      have ul := lt u (List.mem_of_getElem? hu)
      refine ⟨rfl, tyes ?_⟩
      refine ⟨_, rfl, _, rfl, pl, _, _, nV (P u), rfl, rfl, SqL.of ((s16.trans s7) _ _ hpl), at_nV (by rw [List.getElem?_map, List.getElem?_range ul]; rfl), ?_⟩
      refine LcP.put hD2 s7 hda hle (Nat.lt_of_lt_of_le hi (by rw [List.length_map]; exact Nat.le_trans dl (by decide))) (Same.refl _) ?_
      rw [e]
      exact take_succ_map hu
    obtain ⟨acc, s7, hda, _, e⟩ := h7
    rw [List.length_map, List.take_length] at e
    have e6 : acc = (((stN J lo k).map P).map fun (x : Nat) => (x : Int)).map V.int := by rw [e, List.map_map, List.map_map]; rfl
    refine ⟨D2, ((stN J lo k).map P).map fun (x : Nat) => (x : Int), rfl, SqL.of (by rw [← e6]; exact hda), fun ys p8 hperm hsort hp8 => ?_⟩
    obtain ⟨xs, rfl, hl3, hm3⟩ := sorted_N hperm
    rw [mapV]
    have ndp : ((stN J lo k).map P).Nodup := by
      refine (List.pairwise_map.mpr ?_)
      refine (asc_nodup asc).imp_of_mem fun {x y} hx hy hne e => hne ?_
      rw [← R.op x (lt x hx), ← R.op y (lt y hy), e]
    have exs : xs = stN (tab J.length (rnF J O P)) (loP J.length O lo) k := by
      refine asc_ext (sort_up hperm hsort ndp) (stN_asc ok2.asc k) fun x => ?_
      rw [hm3, stN_renum M R hs.ok.lt k, List.mem_map]
      constructor
      · rintro ⟨u, hu, rfl⟩
        exact ⟨R.p u (lt u hu), by rw [R.op u (lt u hu)]; exact hu⟩
      · rintro ⟨xJ, hx⟩
        exact ⟨O x, hx, R.po x xJ⟩
    rw [exs]
    have t8 := same_upd (o := .lst ((stN (tab J.length (rnF J O P)) (loP J.length O lo) k).map nV)) hp8
    refine rNeL (SqL.of (t8 _ _ (s7 _ _ hq6'))) (SqL.of upd_same) ?_
    refine ⟨false, by simp, iteF ?_⟩
    have s18 := (s16.trans s7).trans t8
    have hp18 := t8 _ _ (s7 _ _ hp16)
    generalize upd H7 p8 (.lst ((stN (tab J.length (rnF J O P)) (loP J.length O lo) k).map nV)) = H8 at s18 hp18 ⊢
    refine ⟨_, rfl, _, rfl, _, rfl, ja, sa, p1, J, S, N, stN J lo k, rfl, hs.t.same s18, M, hn, hS.same s18, sev, hp18, lt, Nat.le_trans dl (by decide), fun H9 p9 G s9 hp9 aG gl cG keep => ?_⟩
    have eG := keep asc (stN_closed M sev hs.ok.lt cl k)
    rw [eG] at hp9
    refine ⟨_, rfl, rEqL (SqL.of hp9) (SqL.of (s9 _ _ hp18)) (qb (q H9 (s18.trans s9)) (by simp))⟩
end
end UC
set_option Elab.async false
set_option linter.all false
set_option maxRecDepth 100000
set_option maxHeartbeats 8000000
set_option pp.maxSteps 400
/-! What is against a book, asked of a house. -/
namespace UC
open PySem PySem.Spec PyProof.Rows L2
theorem same_make {H : Hp} {x dx : Addr} {o u : HO} (hx : H x = none) (hdx : H dx = none) (n : dx ≠ x) : Same H (upd (upd H dx o) x u) :=
  (same_upd hdx).trans (same_upd (by rw [upd_ne n.symm]; exact hx))
theorem none_make {H : Hp} {x dx : Addr} {o : HO} (hx : H x = none) (n : dx ≠ x) : (upd H dx o) x = none := by
  rw [upd_ne n.symm]
  exact hx
theorem sameX_make {H H2 : Hp} {x dx : Addr} {o u : HO} (hx : H x = none) (hdx : H dx = none) (n : dx ≠ x) (e : SameX x (upd (upd H dx o) x u) H2) : Same H H2 := fun b v q => e b v (ne_of_none q hx) (same_make hx hdx n _ _ q)
theorem lotOk_nil {z : Str} (h : z = "loan" ∨ z = "free") : LotOk z [] := by
  have n4 : z ≠ "more" := by rcases h with rfl | rfl <;> decide +kernel
  exact ⟨h.elim (fun e => .inr (.inl e)) fun e => .inr (.inr (.inl e)), Nat.zero_le _, fun m hm => (List.not_mem_nil hm).elim, ⟨fun q => absurd rfl q, fun e => absurd e n4⟩⟩
def nm3 : List Str := ["ta", "tb", "tc"]
theorem nm3_nodup (r : Nat) : (nm3.take r).Nodup := List.Sublist.nodup (List.take_sublist ..) (by decide +kernel)
theorem nm3_cut (r : Nat) : cutV (nm3.map V.str) none (some (r : Int)) = (nm3.take r).map V.str := by
  unfold cutV
  rw [HT.sIx_nat, HT.sIx_none, List.drop_zero, Nat.sub_zero, List.map_take]
  rcases Nat.le_total r (nm3.map V.str).length with h | h
  · rw [Nat.min_eq_left h]
  · rw [Nat.min_eq_right h, List.take_of_length_le (Nat.le_refl _), List.take_of_length_le h]
theorem nm3_cut2 (r : Nat) : cutV [V.str "ta", V.str "tb", V.str "tc"] none (some (r : Int)) = (nm3.take r).map V.str := nm3_cut r
section
variable {P : Program} {w : World} {K : PySem.W.Frag} {mg : Str → Option Value} {base : Heap}
def sp_law_against (K : PySem.W.Frag) : Sp := fun vs H Q _ => ∃ (pd lp sp hp ja d : Addr) (J : List (List Nat)) (m : Nat) (lo : Nat → List Nat) (z : Str) (ms ns : List Nat), vs = [.ref pd, .ref lp, .ref sp, .ref hp, .ref ja, .ref d] ∧ PoolAt H pd ∧ LotAt K H lp z ns ∧ LotOk z ns ∧ SpecAt H sp z ms ∧
  HsAt K H hp lp ja d J m lo ∧ J.length ≤ 12 ∧ ∀ H', Same H H' → Q (.bl true) H'
theorem sc_law_against_right : FnScope ["_law_pool_here", "_law_lot", "_law_spec_here", "_law_house", "_law_joining_here", "_law_letters_here", "_law_tools", "_law_book", "_law_kind_here", "_law_due", "_law_thing", "_law_other", "_law_name", "_law_told"] ["_law_pool_here", "_law_lot", "_law_spec_here", "_law_house", "_law_joining_here", "_law_letters_here"] (defScope s_law_against_right) := ⟨rfl, rfl, rfl, by decide +kernel, rfl, by decide +kernel, by decide +kernel⟩
theorem ok_law_against (T : Txt K mg) : Pr P w K mg base 13 "_law_against_right" ["_law_pool_here", "_law_lot", "_law_spec_here", "_law_house", "_law_joining_here", "_law_letters_here"] (sp_law_against K) := by
  have G_law_draw : Pr P w K mg base 1 "_law_draw" _ _ := ok_law_draw T
  have G_law_kind : Pr P w K mg base 12 "_law_kind" _ _ := ok_law_kind T 10 (by decide)
  have G_law_stands : Pr P w K mg base 10 "_law_stands" _ _ := ok_law_stands T 9 (by decide)
  have G_law_flag : Pr P w K mg base 1 "_law_flag" _ _ := ok_law_flag T
  have G_law_odd : Pr P w K mg base 2 "_law_odd" _ _ := ok_law_odd T
  have G_is_against : Pr P w K mg base 6 "is_against" _ _ := ok_is_against T
  have G_Book_init : PrM P w K mg base 5 "Book" "__init__" _ _ := ok_Book_init T
  have G_Lot_init : PrM P w K mg base 4 "Lot" "__init__" _ _ := ok_Lot_init T
  refine T.d_law_against_right.pr sc_law_against_right (fun vs H Q E h => ?_) (fun _ _ _ _ _ _ us hl => match us, hl with | [_, _, _, _, _, _], _ => rfl) (fun f cdv A outer s H vs Q E hr h => ?_)
  · obtain ⟨pd, lp, sp, hp, ja, d, J, m, lo, z, ms, ns, rfl, _⟩ := h
    rfl
  · obtain ⟨pd, lp, sp, hpp, ja, d, J, m, lo, z, ms, ns, rfl, hp, hL, lok, ⟨mk, hsp, _⟩, hs, hn, q⟩ := h
    have hu64 := roomU hr
    refine ⟨_, (pss_cons (ps_s 6 sc_law_against_right.nd (pe_callTy call_tuple_of rfl T.b_tuple (by decide +kernel) (pa_cons (pe_lc (own := [("_law_name", 12)]) (g := gName 12) (tt := tYes) rfl sc_law_against_right.nd (pi_list (pe_slice sl_list (pe_lst (pa_cons pe_str (pa_cons pe_str (pa_cons pe_str pa_nil)))) po_none (po_some (pe_callP G_law_draw hr (by decide) (pa_cons (pv 0) (pa_cons pe_int pa_nil)))))) (blkOk_by (N := ["_law_pool_here", "_law_lot", "_law_spec_here", "_law_house", "_law_joining_here", "_law_letters_here", "_law_tools", "_law_book", "_law_kind_here", "_law_due", "_law_thing", "_law_other", "_law_name", "_law_told"]) (sc := defScope s_law_against_right) (by decide +kernel)) (fun _ _ _ _ _ => (pg_n 12 sc_law_against_right.nd)) (fun _ _ _ _ _ => pts_nil) (fun _ _ _ _ _ => (pe_tup (pa_cons (pv 12) (pa_cons (pe_callP G_law_kind hr (by decide) (pa_cons (pv 0) (pa_cons pe_int (pa_cons pe_int pa_nil)))) pa_nil))))) pa_nil)))
    (pss_cons (ps_if (PW.pt (pw_or (pt_cmpR op_eq (pe_ix ix_tup (pv 2) pe_int (fun _ _ => rfl)) pe_str (nomark _)) (pw_or1 (pt_cmpR op_eq (pe_callP G_law_draw hr (by decide) (pa_cons (pv 0) (pa_cons pe_int pa_nil))) pe_int (nomark _)))))
      (pss_one (ps_s 6 sc_law_against_right.nd (pe_tup pa_nil)))
      pss_nil)
    (pss_cons (ps_par (i := 7) (j := 8) rfl sc_law_against_right.nd rfl rfl (by decide) rfl rfl (pa_cons (pe_makeP G_Book_init T.m_Book T.g_Book hr (by decide) (pa_cons (pv 1) (pa_cons (pv 6) pa_nil))) (pa_cons (pe_callP G_law_kind hr (by decide) (pa_cons (pv 0) (pa_cons pe_int (pa_cons pe_int pa_nil)))) pa_nil)) (by rfl))
    (pss_cons (ps_s 9 sc_law_against_right.nd (pe_callB (cr_all rfl) rfl T.b_all (by decide +kernel) (pa_cons (pe_lc (own := [("_law_name", 12), ("_law_told", 13)]) (g := gTup K 2 (gCons (gName 12) (gCons (gName 13) gNil))) (tt := tYes) rfl sc_law_against_right.nd (pi_tup (pv 6)) (blkOk_by (N := ["_law_pool_here", "_law_lot", "_law_spec_here", "_law_house", "_law_joining_here", "_law_letters_here", "_law_tools", "_law_book", "_law_kind_here", "_law_due", "_law_thing", "_law_other", "_law_name", "_law_told"]) (sc := defScope s_law_against_right) (by decide +kernel)) (fun _ _ _ _ _ => (pg_tup rfl (pgs_cons (pg_n 12 sc_law_against_right.nd) (pgs_cons (pg_n 13 sc_law_against_right.nd) pgs_nil)))) (fun _ _ _ _ _ => pts_nil) (fun _ _ _ _ _ => (pe_cmpR (op_inK (K := K) rfl) pe_int (pe_callP G_law_stands hr (by decide) (pa_cons (pv 4) (pa_cons (pv 5) (pa_cons (pv 13) pa_nil)))) (by with_unfolding_all rfl)))) pa_nil)))
    (pss_cons (ps_s 9 sc_law_against_right.nd (pe_and (pv 9) (pe_one (pe_cmpR (op_notInK (K := K) rfl) pe_int (pe_callP G_law_stands hr (by decide) (pa_cons (pv 4) (pa_cons (pv 5) (pa_cons (pv 8) pa_nil)))) (by with_unfolding_all rfl)))))
    (pss_cons (ps_if (pt_not (pt_val (pe_callP G_law_flag hr (by decide) (pa_cons (pe_callP G_is_against hr (by decide) (pa_cons (pv 7) (pa_cons (pv 8) (pa_cons (pv 3) pa_nil)))) (pa_cons (pv 9) pa_nil)))))
      (pss_one (ps_ret pe_bl))
      pss_nil)
    (pss_cons (ps_s 10 sc_law_against_right.nd (pe_callP G_law_odd hr (by decide) (pa_cons (pv 0) (pa_cons (pv 7) pa_nil))))
    (pss_cons (ps_if (pt_not (pt_val (pe_callP G_law_flag hr (by decide) (pa_cons (pe_callP G_is_against hr (by decide) (pa_cons (pv 7) (pa_cons (pv 8) (pa_cons (pv 10) pa_nil)))) (pa_cons pe_bl pa_nil)))))
      (pss_one (ps_ret pe_bl))
      pss_nil)
    (pss_cons (ps_s 11 sc_law_against_right.nd (pe_ifExp (pt_cmpR op_eq (pe_ix ix_tup (pv 2) pe_int (fun _ _ => rfl)) pe_str (nomark _)) (pe_makeP G_Lot_init T.m_Lot T.g_Lot hr (by decide) (pa_cons pe_str (pa_cons (pe_tup pa_nil) pa_nil))) (pe_makeP G_Lot_init T.m_Lot T.g_Lot hr (by decide) (pa_cons pe_str (pa_cons (pe_tup pa_nil) pa_nil)))))
    (pss_one (ps_ret (pe_or (pe_cmpR op_eq (pe_ix ix_tup (pv 2) pe_int (fun _ _ => rfl)) pe_str (nomark _)) (pe_one (pe_cmpR op_is_bl (pe_callP G_is_against hr (by decide) (pa_cons (pe_makeP G_Book_init T.m_Book T.g_Book hr (by decide) (pa_cons (pv 11) (pa_cons (pv 6) pa_nil))) (pa_cons (pv 8) (pa_cons (pv 3) pa_nil)))) pe_bl (nomark _))))))))))))))), ?_⟩
    simp only [st_c, st_n, st_0]
    refine ⟨Nat.le_of_ble_eq_true rfl, fun nl hnl => ?_⟩
    have a1 : Same H (upd H nl (.lst [.str "ta", .str "tb", .str "tc"])) := same_upd hnl
    have hn1 : (upd H nl (.lst [.str "ta", .str "tb", .str "tc"])) nl = some (.lst [.str "ta", .str "tb", .str "tc"]) := upd_same
    refine ⟨_, rfl, pd, 4, rfl, hp.same a1, by decide, by decide, fun r hr4 => ⟨_, rfl, nl, _, rfl, SqL.of hn1, fun sl hsl => ?_⟩⟩
    rw [nm3_cut2]
    have a2 := a1.trans (same_upd (o := .lst ((nm3.take r).map V.str)) hsl)
    have hs2 : (upd (upd H nl (.lst [.str "ta", .str "tb", .str "tc"])) sl (.lst ((nm3.take r).map V.str))) sl = some (.lst ((nm3.take r).map V.str)) := upd_same
    generalize upd (upd H nl (.lst [.str "ta", .str "tb", .str "tc"])) sl (.lst ((nm3.take r).map V.str)) = H2 at a2 hs2 ⊢
    refine ⟨sl, rfl, ⟨_, SqL.of hs2⟩, fun D hD => ?_⟩
    have nl3 : (nm3.take r).length ≤ 3 := by rw [List.length_take]; exact Nat.min_le_right _ _
    refine lc_it walk_list (LcP H2 D (fun i acc H' => ∃ (bs : List Addr) (ts : List (Str × Kd)), acc = bs.map V.ref ∧ Paired (fun b (t : Str × Kd) => b ≠ D ∧ ∃ v, H' b = some (.tup [.str t.1, v]) ∧ KdAt H' t.2 v) bs ts ∧ ts.map (·.1) = (nm3.take r).take i ∧ ∀ t ∈ ts, t.2.size ≤ 5 ∧ t.2.lets 3)) (LcP.zero hD ⟨[], [], rfl, .nil, rfl, fun t h => (List.not_mem_nil h).elim⟩) (fun i H3 _ ⟨_, s3, _⟩ => SqL.of (s3 _ _ hs2)) ?_ fun H3 h3 => ?_
    · rintro i x H3 _ hi ⟨acc, s3, hda, hle, bs, ts, rfl, hps, hnm, hts⟩ ⟨rfl, hx⟩
      rw [List.getElem?_map] at hx
      cases en : (nm3.take r)[i]? with
      | none => rw [en] at hx; cases hx
      | some zn =>
        rw [en] at hx
        cases (show V.str zn = x from Option.some.inj hx)
        refine ⟨rfl, tyes ?_⟩
        refine ⟨_, rfl, _, rfl, pd, 5, 3, rfl, (hp.same a2).same s3, by decide, by decide, by decide, by decide, fun H4 v k s4 hk ksz klt => ⟨Nat.le_of_ble_eq_true rfl, fun tp htp => ?_⟩⟩
        have c5 := s4.trans (same_upd (o := .tup [.str zn, v]) htp)
        have hda5 := c5 _ _ hda
        have ntD : tp ≠ D := (ne_of_none (s4 _ _ hda) htp).symm
        refine LcP.put hD s3 hda hle (Nat.lt_of_lt_of_le hi (by rw [List.length_map]; exact Nat.le_trans nl3 (by decide))) c5 ⟨bs ++ [tp], ts ++ [(zn, k)], by rw [List.map_append]; rfl, pairedSnoc (Paired.mapP hps fun c t ⟨y1, v2, y2, y3⟩ => ⟨y1, v2, by rw [upd_ne y1]; exact c5 _ _ y2, (y3.same c5).keepL hda5⟩) ⟨ntD, v, by rw [upd_ne ntD]; exact upd_same, (hk.same (same_upd htp)).keepL hda5⟩, ?_, fun t ht => ?_⟩
        · rw [List.map_append, hnm, List.take_add_one, en]
          rfl
        · rcases List.mem_append.mp ht with y | y
          · exact hts t y
          · rw [List.mem_singleton.mp y]
            exact ⟨ksz, klt⟩
    obtain ⟨acc, s3, hda, _, bs, ts, rfl, hps, hnm, hts⟩ := h3
    rw [List.length_map, List.take_length] at hnm
    refine ⟨D, _, rfl, .inl ⟨SqL.of hda, fun ta hta => ?_⟩⟩
    have a3 := (a2.trans s3).trans (same_upd (o := .tup (bs.map V.ref)) hta)
    have hT : ToolsAt (upd H3 ta (.tup (bs.map V.ref))) ta ts := ⟨bs, upd_same, Paired.mapP hps fun c t ⟨_, v, y2, y3⟩ => ⟨v, same_upd hta _ _ y2, y3.same (same_upd hta)⟩⟩
    have tl : ts.length ≤ 3 := by have := congrArg List.length hnm; rw [List.length_map] at this; omega
    have tok : ToolsOk ts := by
      refine ⟨tl, fun t ht => ?_, by rw [hnm]; exact nm3_nodup r, fun t ht => ⟨Kd.lets_le (by decide) (hts t ht).2, Nat.le_trans (hts t ht).1 (by decide)⟩⟩
      have : t.1 ∈ nm3.take r := by rw [← hnm]; exact List.mem_map.mpr ⟨t, ht, rfl⟩
      have h3 := List.mem_of_mem_take this
      simpa [nm3] using h3
    have tsz : ∀ t ∈ ts, t.2.size ≤ 9 := fun t ht => Nat.le_trans (hts t ht).1 (by decide)
    generalize upd H3 ta (.tup (bs.map V.ref)) = H4 at a3 hT ⊢
    refine ⟨_, rfl, _, _, _, _, rfl, rfl, SqT.of (a3 _ _ hsp), rfl, rfl, _, rfl, ?_⟩
    rw [dec_str]
    have hT0 : ToolsAt H4 ta ts := hT
    have clear : ∀ ta2, ToolsAt H4 ta2 ts → True := fun _ _ => trivial
    by_cases zo : z = "once"
    · rw [show (z == ("once" : Str)) = true from beq_iff_eq.mpr zo]
      refine iteT ?_
      refine ⟨Nat.zero_le _, fun te hte => ?_⟩
      have SH := a3.trans (same_upd (o := .tup []) hte)
      have HT : ToolsAt (upd H4 te (.tup [])) te [] := ⟨[], upd_same, .nil⟩
      have ONCE : z = "once" → ([] : List (Str × Kd)) = [] := fun _ => rfl
      have TOK : ToolsOk [] := ⟨Nat.zero_le _, fun t h => (List.not_mem_nil h).elim, List.nodup_nil, fun t h => (List.not_mem_nil h).elim⟩
      have hSZ : ∀ t ∈ ([] : List (Str × Kd)), t.2.size ≤ 9 := fun t h => (List.not_mem_nil h).elim
      generalize upd H4 te (.tup []) = H5 at SH HT ⊢
      refine ⟨_, rfl, _, rfl, fun bx bd hbx hbd nbd => ⟨bx, lp, te, bd, z, ns, ([] : List (Str × Kd)), rfl, upd_same, (hL.same SH).same (same_make hbx hbd nbd), HT.same (same_make hbx hbd nbd), TOK, fun H6 sx6 hB6 => ⟨rfl, ?_⟩⟩⟩
      have s6a := sameX_make hbx hbd nbd sx6
      have hT6 := HT.same s6a
      have s6 := SH.trans s6a
      refine ⟨_, rfl, pd, 8, 3, rfl, hp.same s6, by decide, by decide, by decide, by decide, fun H7 v k s7 hk ksz klt => ?_⟩
      refine ⟨_, _, rfl, ?_⟩
      have s67 := s6.trans s7
      have hT7 := hT6.same s7
      obtain ⟨bs7, hbs7, hts7⟩ := id hT7
      have kl26 := Kd.lets_le (show 3 ≤ 26 by decide) klt
      have ksz9 : k.size ≤ 9 := Nat.le_trans ksz (by decide)
      have dep : ∀ k : Kd, k.size ≤ 9 → k.depth ≤ 9 := fun k h => by have := Kd.depth_lt k; omega
      refine ⟨_, rfl, te, rfl, ⟨_, SqT.of hbs7⟩, fun D hD => ?_⟩
      refine lc_it walk_tup (LcP H7 D (fun i acc _ => acc = ((([] : List (Str × Kd))).take i).map fun t => V.bl (decide (0 ∈ stN J lo t.2)))) (LcP.zero hD rfl) (fun i H8 _ ⟨_, s8, _⟩ => SqT.of (s8 _ _ hbs7)) ?_ fun H8 h8 => ?_
      · rintro i x H8 _ hi ⟨acc, s8, hda, hle, e⟩ ⟨rfl, hx⟩
        obtain ⟨c, hc, rfl⟩ := ref_at hx
        obtain ⟨t, ht, vv, hv, hkd⟩ := pairedAt2 hts7 hc
        have tm := List.mem_of_getElem? ht
        refine ⟨c, _, rfl, SqT.of (s8 _ _ hv), rfl, _, _, rfl, _, _, rfl, rfl, rfl, ?_⟩
        refine ⟨_, rfl, _, rfl, _, rfl, ja, d, J, List.range m, lo, t.2, vv, rfl, hs.t.same (s67.trans s8), hs.M, by omega, hs.l.same (s67.trans s8), hs.ok, hkd.same s8, dep _ (hSZ t tm), fun H9 p9 s9 hp9 => ?_⟩
        refine ⟨p9, _, rfl, .inl (SqL.of hp9), rfl, flat_N _, ?_⟩
        dsimp only
        rw [if_neg Bool.false_ne_true, show V.int 0 = nV 0 from rfl, inV_N]
        refine LcP.put hD s8 hda hle (Nat.lt_of_lt_of_le hi (by rw [List.length_map, pairedLen hts7]; exact Nat.le_trans TOK.len (by decide))) s9 ?_
        rw [e]
        exact take_succ_map ht
      obtain ⟨hq8, s8⟩ := finMap (K := K) (by rw [List.length_map, pairedLen hts7]) h8
      refine ⟨D, _, rfl, hq8, ?_⟩
      rw [all_map]
      have s68 := s67.trans s8
      have hk8 := hk.same s8
      have asck := stN_asc (J := J) hs.ok.asc
      have stands : ∀ H9, Same H8 H9 → ∃ c : Bool, c = true := fun _ _ => ⟨true, rfl⟩
      have agE : agN J lo ([] : List (Str × Kd)) k = ((([] : List (Str × Kd))).all (fun t => decide (0 ∈ stN J lo t.2)) && !decide (0 ∈ stN J lo k)) := rfl
      refine ⟨_, rfl, _, rfl, ?_⟩
      cases hall : (([] : List (Str × Kd))).all (fun t => decide (0 ∈ stN J lo t.2)) with
      | false =>
        rw [hall, Bool.false_and] at agE
        refine iteF ?_
        have s8B := s8
        have HQ : Same H7 H8 := s8
        have hB9 := (hB6.same s7).same HQ
        have hL9 := hL.same s68
        have hk9 := hk.same HQ
        have hs9 := hs.same s68
        have hOk : HsOk J lo := ⟨hs.M, by omega, hs.ok.asc, hs.ok.lt⟩
        refine ⟨_, rfl, _, rfl, _, rfl, bx, lp, z, ns, ([] : List (Str × Kd)), k, v, .ref hpp, rfl, hB9, hL9, ONCE, TOK, hSZ, hk9, kl26, ksz9, .inr ⟨hpp, lp, z, ns, J, lo, rfl, hs9.h, hOk, hL9, fun HG sG => ?_⟩⟩
        rw [decide_eq_true (show z = z ∧ ns = ns from ⟨rfl, rfl⟩), Bool.true_and, agE]
        refine ⟨_, rfl, _, _, rfl, ?_⟩
        rw [decide_eq_true rfl]
        refine ⟨true, rfl, iteF ?_⟩
        have sHG := s68.trans sG
        have hBG := hB9.same sG
        refine ⟨_, rfl, _, rfl, pd, bx, lp, ([] : List (Str × Kd)), rfl, hp.same sHG, hBG, fun HI ov sI nh => ?_⟩
        obtain ⟨ot, o1, o2, o3⟩ := nh
        have sHI := sHG.trans sI
        refine ⟨_, rfl, _, rfl, _, rfl, bx, lp, z, ns, ([] : List (Str × Kd)), k, v, ov, rfl, hBG.same sI, hL.same sHI, ONCE, TOK, hSZ, hk9.same (sG.trans sI), kl26, ksz9, .inl ⟨ot, o1, o2, o3, fun HJ sJ => ?_⟩⟩
        refine ⟨_, _, rfl, ?_⟩
        rw [decide_eq_true rfl]
        refine ⟨true, rfl, iteF ?_⟩
        have sHJ := sHI.trans sJ
        have hTJ := (hT7.same HQ).same ((sG.trans sI).trans sJ)
        have hkJ := hk9.same ((sG.trans sI).trans sJ)
        refine ⟨_, rfl, _, _, _, _, rfl, rfl, SqT.of (sHJ _ _ hsp), rfl, rfl, _, rfl, ?_⟩
        rw [dec_str]
        by_cases zf : z = "free"
        · rw [show (z == ("free" : Str)) = true from beq_iff_eq.mpr zf]
          refine iteT ?_
          refine ⟨Nat.zero_le _, fun et het => ?_⟩
          intro ox od hox hod nod
          have tE : Same HJ (upd HJ et (.tup [])) := same_upd het
          refine ⟨ox, et, od, "loan", [], rfl, upd_same, same_make hox hod nod _ _ upd_same, lotOk_nil (.inl rfl), Nat.zero_le _, fun HK ns2 sxK hLK okK _ => ⟨rfl, ?_⟩⟩
          have sK := tE.trans (sameX_make hox hod nod sxK)
          have sHK := sHJ.trans sK
          refine ⟨_, rfl, _, _, _, _, rfl, rfl, SqT.of (sHK _ _ hsp), rfl, rfl, _, rfl, ?_⟩
          rw [dec_str]
          by_cases zo : z = "once"
          · rw [show (z == ("once" : Str)) = true from beq_iff_eq.mpr zo]
            exact iteT (q HK sHK)
          rw [show (z == ("once" : Str)) = false from beq_eq_false_iff_ne.mpr zo]
          refine iteF ?_
          refine ⟨_, rfl, _, rfl, fun cx cd hcx hcd ncd => ⟨cx, ox, te, cd, "loan", ns2, ([] : List (Str × Kd)), rfl, upd_same, hLK.same (same_make hcx hcd ncd), (hTJ.same sK).same (same_make hcx hcd ncd), TOK, fun HM sxM hBM => ⟨rfl, ?_⟩⟩⟩
          have sM := sameX_make hcx hcd ncd sxM
          have sHM := sHK.trans sM
          refine ⟨_, rfl, _, rfl, cx, ox, "loan", ns2, ([] : List (Str × Kd)), k, v, .ref hpp, rfl, hBM, hLK.same sM, fun e => absurd e (by decide +kernel), TOK, hSZ, hkJ.same (sK.trans sM), kl26, ksz9, .inr ⟨hpp, lp, z, ns, J, lo, rfl, (hs.same sHM).h, hOk, hL.same sHM, fun HO sO => ?_⟩⟩
          rw [decide_eq_false (show ¬ (z = "loan" ∧ ns = ns2) from fun e => (fun e => by rw [zf] at e; exact absurd e (by decide +kernel)) e.1), Bool.false_and]
          exact ⟨_, _, rfl, rfl, q HO (sHM.trans sO)⟩
        · rw [show (z == ("free" : Str)) = false from beq_eq_false_iff_ne.mpr zf]
          refine iteF ?_
          refine ⟨Nat.zero_le _, fun et het => ?_⟩
          intro ox od hox hod nod
          have tE : Same HJ (upd HJ et (.tup [])) := same_upd het
          refine ⟨ox, et, od, "free", [], rfl, upd_same, same_make hox hod nod _ _ upd_same, lotOk_nil (.inr rfl), Nat.zero_le _, fun HK ns2 sxK hLK okK _ => ⟨rfl, ?_⟩⟩
          have sK := tE.trans (sameX_make hox hod nod sxK)
          have sHK := sHJ.trans sK
          refine ⟨_, rfl, _, _, _, _, rfl, rfl, SqT.of (sHK _ _ hsp), rfl, rfl, _, rfl, ?_⟩
          rw [dec_str]
          by_cases zo : z = "once"
          · rw [show (z == ("once" : Str)) = true from beq_iff_eq.mpr zo]
            exact iteT (q HK sHK)
          rw [show (z == ("once" : Str)) = false from beq_eq_false_iff_ne.mpr zo]
          refine iteF ?_
          refine ⟨_, rfl, _, rfl, fun cx cd hcx hcd ncd => ⟨cx, ox, te, cd, "free", ns2, ([] : List (Str × Kd)), rfl, upd_same, hLK.same (same_make hcx hcd ncd), (hTJ.same sK).same (same_make hcx hcd ncd), TOK, fun HM sxM hBM => ⟨rfl, ?_⟩⟩⟩
          have sM := sameX_make hcx hcd ncd sxM
          have sHM := sHK.trans sM
          refine ⟨_, rfl, _, rfl, cx, ox, "free", ns2, ([] : List (Str × Kd)), k, v, .ref hpp, rfl, hBM, hLK.same sM, fun e => absurd e (by decide +kernel), TOK, hSZ, hkJ.same (sK.trans sM), kl26, ksz9, .inr ⟨hpp, lp, z, ns, J, lo, rfl, (hs.same sHM).h, hOk, hL.same sHM, fun HO sO => ?_⟩⟩
          rw [decide_eq_false (show ¬ (z = "free" ∧ ns = ns2) from fun e => zf e.1), Bool.false_and]
          exact ⟨_, _, rfl, rfl, q HO (sHM.trans sO)⟩
      | true =>
        rw [hall, Bool.true_and] at agE
        refine iteT ?_
        refine ⟨_, rfl, _, rfl, _, rfl, ja, d, J, List.range m, lo, k, v, rfl, hs.t.same s68, hs.M, by omega, hs.l.same s68, hs.ok, hk8, dep k ksz9, fun H9 p9 s9 hp9 => ?_⟩
        refine ⟨p9, _, rfl, .inl (SqL.of hp9), rfl, flat_N _, ?_⟩
        dsimp only
        rw [if_pos rfl, show V.int 0 = nV 0 from rfl, inV_N]
        have s69 := s68.trans s9
        have HQ : Same H7 H9 := s8.trans s9
        have hB9 := (hB6.same s7).same HQ
        have hL9 := hL.same s69
        have hk9 := hk.same HQ
        have hs9 := hs.same s69
        have hOk : HsOk J lo := ⟨hs.M, by omega, hs.ok.asc, hs.ok.lt⟩
        refine ⟨_, rfl, _, rfl, _, rfl, bx, lp, z, ns, ([] : List (Str × Kd)), k, v, .ref hpp, rfl, hB9, hL9, ONCE, TOK, hSZ, hk9, kl26, ksz9, .inr ⟨hpp, lp, z, ns, J, lo, rfl, hs9.h, hOk, hL9, fun HG sG => ?_⟩⟩
        rw [decide_eq_true (show z = z ∧ ns = ns from ⟨rfl, rfl⟩), Bool.true_and, agE]
        refine ⟨_, rfl, _, _, rfl, ?_⟩
        rw [decide_eq_true rfl]
        refine ⟨true, rfl, iteF ?_⟩
        have sHG := s69.trans sG
        have hBG := hB9.same sG
        refine ⟨_, rfl, _, rfl, pd, bx, lp, ([] : List (Str × Kd)), rfl, hp.same sHG, hBG, fun HI ov sI nh => ?_⟩
        obtain ⟨ot, o1, o2, o3⟩ := nh
        have sHI := sHG.trans sI
        refine ⟨_, rfl, _, rfl, _, rfl, bx, lp, z, ns, ([] : List (Str × Kd)), k, v, ov, rfl, hBG.same sI, hL.same sHI, ONCE, TOK, hSZ, hk9.same (sG.trans sI), kl26, ksz9, .inl ⟨ot, o1, o2, o3, fun HJ sJ => ?_⟩⟩
        refine ⟨_, _, rfl, ?_⟩
        rw [decide_eq_true rfl]
        refine ⟨true, rfl, iteF ?_⟩
        have sHJ := sHI.trans sJ
        have hTJ := (hT7.same HQ).same ((sG.trans sI).trans sJ)
        have hkJ := hk9.same ((sG.trans sI).trans sJ)
        refine ⟨_, rfl, _, _, _, _, rfl, rfl, SqT.of (sHJ _ _ hsp), rfl, rfl, _, rfl, ?_⟩
        rw [dec_str]
        by_cases zf : z = "free"
        · rw [show (z == ("free" : Str)) = true from beq_iff_eq.mpr zf]
          refine iteT ?_
          refine ⟨Nat.zero_le _, fun et het => ?_⟩
          intro ox od hox hod nod
          have tE : Same HJ (upd HJ et (.tup [])) := same_upd het
          refine ⟨ox, et, od, "loan", [], rfl, upd_same, same_make hox hod nod _ _ upd_same, lotOk_nil (.inl rfl), Nat.zero_le _, fun HK ns2 sxK hLK okK _ => ⟨rfl, ?_⟩⟩
          have sK := tE.trans (sameX_make hox hod nod sxK)
          have sHK := sHJ.trans sK
          refine ⟨_, rfl, _, _, _, _, rfl, rfl, SqT.of (sHK _ _ hsp), rfl, rfl, _, rfl, ?_⟩
          rw [dec_str]
          by_cases zo : z = "once"
          · rw [show (z == ("once" : Str)) = true from beq_iff_eq.mpr zo]
            exact iteT (q HK sHK)
          rw [show (z == ("once" : Str)) = false from beq_eq_false_iff_ne.mpr zo]
          refine iteF ?_
          refine ⟨_, rfl, _, rfl, fun cx cd hcx hcd ncd => ⟨cx, ox, te, cd, "loan", ns2, ([] : List (Str × Kd)), rfl, upd_same, hLK.same (same_make hcx hcd ncd), (hTJ.same sK).same (same_make hcx hcd ncd), TOK, fun HM sxM hBM => ⟨rfl, ?_⟩⟩⟩
          have sM := sameX_make hcx hcd ncd sxM
          have sHM := sHK.trans sM
          refine ⟨_, rfl, _, rfl, cx, ox, "loan", ns2, ([] : List (Str × Kd)), k, v, .ref hpp, rfl, hBM, hLK.same sM, fun e => absurd e (by decide +kernel), TOK, hSZ, hkJ.same (sK.trans sM), kl26, ksz9, .inr ⟨hpp, lp, z, ns, J, lo, rfl, (hs.same sHM).h, hOk, hL.same sHM, fun HO sO => ?_⟩⟩
          rw [decide_eq_false (show ¬ (z = "loan" ∧ ns = ns2) from fun e => (fun e => by rw [zf] at e; exact absurd e (by decide +kernel)) e.1), Bool.false_and]
          exact ⟨_, _, rfl, rfl, q HO (sHM.trans sO)⟩
        · rw [show (z == ("free" : Str)) = false from beq_eq_false_iff_ne.mpr zf]
          refine iteF ?_
          refine ⟨Nat.zero_le _, fun et het => ?_⟩
          intro ox od hox hod nod
          have tE : Same HJ (upd HJ et (.tup [])) := same_upd het
          refine ⟨ox, et, od, "free", [], rfl, upd_same, same_make hox hod nod _ _ upd_same, lotOk_nil (.inr rfl), Nat.zero_le _, fun HK ns2 sxK hLK okK _ => ⟨rfl, ?_⟩⟩
          have sK := tE.trans (sameX_make hox hod nod sxK)
          have sHK := sHJ.trans sK
          refine ⟨_, rfl, _, _, _, _, rfl, rfl, SqT.of (sHK _ _ hsp), rfl, rfl, _, rfl, ?_⟩
          rw [dec_str]
          by_cases zo : z = "once"
          · rw [show (z == ("once" : Str)) = true from beq_iff_eq.mpr zo]
            exact iteT (q HK sHK)
          rw [show (z == ("once" : Str)) = false from beq_eq_false_iff_ne.mpr zo]
          refine iteF ?_
          refine ⟨_, rfl, _, rfl, fun cx cd hcx hcd ncd => ⟨cx, ox, te, cd, "free", ns2, ([] : List (Str × Kd)), rfl, upd_same, hLK.same (same_make hcx hcd ncd), (hTJ.same sK).same (same_make hcx hcd ncd), TOK, fun HM sxM hBM => ⟨rfl, ?_⟩⟩⟩
          have sM := sameX_make hcx hcd ncd sxM
          have sHM := sHK.trans sM
          refine ⟨_, rfl, _, rfl, cx, ox, "free", ns2, ([] : List (Str × Kd)), k, v, .ref hpp, rfl, hBM, hLK.same sM, fun e => absurd e (by decide +kernel), TOK, hSZ, hkJ.same (sK.trans sM), kl26, ksz9, .inr ⟨hpp, lp, z, ns, J, lo, rfl, (hs.same sHM).h, hOk, hL.same sHM, fun HO sO => ?_⟩⟩
          rw [decide_eq_false (show ¬ (z = "free" ∧ ns = ns2) from fun e => zf e.1), Bool.false_and]
          exact ⟨_, _, rfl, rfl, q HO (sHM.trans sO)⟩
    · rw [show (z == ("once" : Str)) = false from beq_eq_false_iff_ne.mpr zo]
      refine iteF ?_
      refine ⟨_, rfl, pd, 2, rfl, hp.same a3, by decide, by decide, fun r2 hr2 => ⟨rfl, _, rfl, ?_⟩⟩
      rw [dec_int]
      by_cases c0 : (r2 : Int) = 0
      · rw [show ((r2 : Int) == 0) = true from beq_iff_eq.mpr c0]
        refine iteT ?_
        refine ⟨Nat.zero_le _, fun te hte => ?_⟩
        have SH := a3.trans (same_upd (o := .tup []) hte)
        have HT : ToolsAt (upd H4 te (.tup [])) te [] := ⟨[], upd_same, .nil⟩
        have ONCE : z = "once" → ([] : List (Str × Kd)) = [] := fun _ => rfl
        have TOK : ToolsOk [] := ⟨Nat.zero_le _, fun t h => (List.not_mem_nil h).elim, List.nodup_nil, fun t h => (List.not_mem_nil h).elim⟩
        have hSZ : ∀ t ∈ ([] : List (Str × Kd)), t.2.size ≤ 9 := fun t h => (List.not_mem_nil h).elim
        generalize upd H4 te (.tup []) = H5 at SH HT ⊢
        refine ⟨_, rfl, _, rfl, fun bx bd hbx hbd nbd => ⟨bx, lp, te, bd, z, ns, ([] : List (Str × Kd)), rfl, upd_same, (hL.same SH).same (same_make hbx hbd nbd), HT.same (same_make hbx hbd nbd), TOK, fun H6 sx6 hB6 => ⟨rfl, ?_⟩⟩⟩
        have s6a := sameX_make hbx hbd nbd sx6
        have hT6 := HT.same s6a
        have s6 := SH.trans s6a
        refine ⟨_, rfl, pd, 8, 3, rfl, hp.same s6, by decide, by decide, by decide, by decide, fun H7 v k s7 hk ksz klt => ?_⟩
        refine ⟨_, _, rfl, ?_⟩
        have s67 := s6.trans s7
        have hT7 := hT6.same s7
        obtain ⟨bs7, hbs7, hts7⟩ := id hT7
        have kl26 := Kd.lets_le (show 3 ≤ 26 by decide) klt
        have ksz9 : k.size ≤ 9 := Nat.le_trans ksz (by decide)
        have dep : ∀ k : Kd, k.size ≤ 9 → k.depth ≤ 9 := fun k h => by have := Kd.depth_lt k; omega
        refine ⟨_, rfl, te, rfl, ⟨_, SqT.of hbs7⟩, fun D hD => ?_⟩
        refine lc_it walk_tup (LcP H7 D (fun i acc _ => acc = ((([] : List (Str × Kd))).take i).map fun t => V.bl (decide (0 ∈ stN J lo t.2)))) (LcP.zero hD rfl) (fun i H8 _ ⟨_, s8, _⟩ => SqT.of (s8 _ _ hbs7)) ?_ fun H8 h8 => ?_
        · rintro i x H8 _ hi ⟨acc, s8, hda, hle, e⟩ ⟨rfl, hx⟩
          obtain ⟨c, hc, rfl⟩ := ref_at hx
          obtain ⟨t, ht, vv, hv, hkd⟩ := pairedAt2 hts7 hc
          have tm := List.mem_of_getElem? ht
          refine ⟨c, _, rfl, SqT.of (s8 _ _ hv), rfl, _, _, rfl, _, _, rfl, rfl, rfl, ?_⟩
          refine ⟨_, rfl, _, rfl, _, rfl, ja, d, J, List.range m, lo, t.2, vv, rfl, hs.t.same (s67.trans s8), hs.M, by omega, hs.l.same (s67.trans s8), hs.ok, hkd.same s8, dep _ (hSZ t tm), fun H9 p9 s9 hp9 => ?_⟩
          refine ⟨p9, _, rfl, .inl (SqL.of hp9), rfl, flat_N _, ?_⟩
          dsimp only
          rw [if_neg Bool.false_ne_true, show V.int 0 = nV 0 from rfl, inV_N]
          refine LcP.put hD s8 hda hle (Nat.lt_of_lt_of_le hi (by rw [List.length_map, pairedLen hts7]; exact Nat.le_trans TOK.len (by decide))) s9 ?_
          rw [e]
          exact take_succ_map ht
        obtain ⟨hq8, s8⟩ := finMap (K := K) (by rw [List.length_map, pairedLen hts7]) h8
        refine ⟨D, _, rfl, hq8, ?_⟩
        rw [all_map]
        have s68 := s67.trans s8
        have hk8 := hk.same s8
        have asck := stN_asc (J := J) hs.ok.asc
        have stands : ∀ H9, Same H8 H9 → ∃ c : Bool, c = true := fun _ _ => ⟨true, rfl⟩
        have agE : agN J lo ([] : List (Str × Kd)) k = ((([] : List (Str × Kd))).all (fun t => decide (0 ∈ stN J lo t.2)) && !decide (0 ∈ stN J lo k)) := rfl
        refine ⟨_, rfl, _, rfl, ?_⟩
        cases hall : (([] : List (Str × Kd))).all (fun t => decide (0 ∈ stN J lo t.2)) with
        | false =>
          rw [hall, Bool.false_and] at agE
          refine iteF ?_
          have s8B := s8
          have HQ : Same H7 H8 := s8
          have hB9 := (hB6.same s7).same HQ
          have hL9 := hL.same s68
          have hk9 := hk.same HQ
          have hs9 := hs.same s68
          have hOk : HsOk J lo := ⟨hs.M, by omega, hs.ok.asc, hs.ok.lt⟩
          refine ⟨_, rfl, _, rfl, _, rfl, bx, lp, z, ns, ([] : List (Str × Kd)), k, v, .ref hpp, rfl, hB9, hL9, ONCE, TOK, hSZ, hk9, kl26, ksz9, .inr ⟨hpp, lp, z, ns, J, lo, rfl, hs9.h, hOk, hL9, fun HG sG => ?_⟩⟩
          rw [decide_eq_true (show z = z ∧ ns = ns from ⟨rfl, rfl⟩), Bool.true_and, agE]
          refine ⟨_, rfl, _, _, rfl, ?_⟩
          rw [decide_eq_true rfl]
          refine ⟨true, rfl, iteF ?_⟩
          have sHG := s68.trans sG
          have hBG := hB9.same sG
          refine ⟨_, rfl, _, rfl, pd, bx, lp, ([] : List (Str × Kd)), rfl, hp.same sHG, hBG, fun HI ov sI nh => ?_⟩
          obtain ⟨ot, o1, o2, o3⟩ := nh
          have sHI := sHG.trans sI
          refine ⟨_, rfl, _, rfl, _, rfl, bx, lp, z, ns, ([] : List (Str × Kd)), k, v, ov, rfl, hBG.same sI, hL.same sHI, ONCE, TOK, hSZ, hk9.same (sG.trans sI), kl26, ksz9, .inl ⟨ot, o1, o2, o3, fun HJ sJ => ?_⟩⟩
          refine ⟨_, _, rfl, ?_⟩
          rw [decide_eq_true rfl]
          refine ⟨true, rfl, iteF ?_⟩
          have sHJ := sHI.trans sJ
          have hTJ := (hT7.same HQ).same ((sG.trans sI).trans sJ)
          have hkJ := hk9.same ((sG.trans sI).trans sJ)
          refine ⟨_, rfl, _, _, _, _, rfl, rfl, SqT.of (sHJ _ _ hsp), rfl, rfl, _, rfl, ?_⟩
          rw [dec_str]
          by_cases zf : z = "free"
          · rw [show (z == ("free" : Str)) = true from beq_iff_eq.mpr zf]
            refine iteT ?_
            refine ⟨Nat.zero_le _, fun et het => ?_⟩
            intro ox od hox hod nod
            have tE : Same HJ (upd HJ et (.tup [])) := same_upd het
            refine ⟨ox, et, od, "loan", [], rfl, upd_same, same_make hox hod nod _ _ upd_same, lotOk_nil (.inl rfl), Nat.zero_le _, fun HK ns2 sxK hLK okK _ => ⟨rfl, ?_⟩⟩
            have sK := tE.trans (sameX_make hox hod nod sxK)
            have sHK := sHJ.trans sK
            refine ⟨_, rfl, _, _, _, _, rfl, rfl, SqT.of (sHK _ _ hsp), rfl, rfl, _, rfl, ?_⟩
            rw [dec_str]
            by_cases zo : z = "once"
            · rw [show (z == ("once" : Str)) = true from beq_iff_eq.mpr zo]
              exact iteT (q HK sHK)
            rw [show (z == ("once" : Str)) = false from beq_eq_false_iff_ne.mpr zo]
            refine iteF ?_
            refine ⟨_, rfl, _, rfl, fun cx cd hcx hcd ncd => ⟨cx, ox, te, cd, "loan", ns2, ([] : List (Str × Kd)), rfl, upd_same, hLK.same (same_make hcx hcd ncd), (hTJ.same sK).same (same_make hcx hcd ncd), TOK, fun HM sxM hBM => ⟨rfl, ?_⟩⟩⟩
            have sM := sameX_make hcx hcd ncd sxM
            have sHM := sHK.trans sM
            refine ⟨_, rfl, _, rfl, cx, ox, "loan", ns2, ([] : List (Str × Kd)), k, v, .ref hpp, rfl, hBM, hLK.same sM, fun e => absurd e (by decide +kernel), TOK, hSZ, hkJ.same (sK.trans sM), kl26, ksz9, .inr ⟨hpp, lp, z, ns, J, lo, rfl, (hs.same sHM).h, hOk, hL.same sHM, fun HO sO => ?_⟩⟩
            rw [decide_eq_false (show ¬ (z = "loan" ∧ ns = ns2) from fun e => (fun e => by rw [zf] at e; exact absurd e (by decide +kernel)) e.1), Bool.false_and]
            exact ⟨_, _, rfl, rfl, q HO (sHM.trans sO)⟩
          · rw [show (z == ("free" : Str)) = false from beq_eq_false_iff_ne.mpr zf]
            refine iteF ?_
            refine ⟨Nat.zero_le _, fun et het => ?_⟩
            intro ox od hox hod nod
            have tE : Same HJ (upd HJ et (.tup [])) := same_upd het
            refine ⟨ox, et, od, "free", [], rfl, upd_same, same_make hox hod nod _ _ upd_same, lotOk_nil (.inr rfl), Nat.zero_le _, fun HK ns2 sxK hLK okK _ => ⟨rfl, ?_⟩⟩
            have sK := tE.trans (sameX_make hox hod nod sxK)
            have sHK := sHJ.trans sK
            refine ⟨_, rfl, _, _, _, _, rfl, rfl, SqT.of (sHK _ _ hsp), rfl, rfl, _, rfl, ?_⟩
            rw [dec_str]
            by_cases zo : z = "once"
            · rw [show (z == ("once" : Str)) = true from beq_iff_eq.mpr zo]
              exact iteT (q HK sHK)
            rw [show (z == ("once" : Str)) = false from beq_eq_false_iff_ne.mpr zo]
            refine iteF ?_
            refine ⟨_, rfl, _, rfl, fun cx cd hcx hcd ncd => ⟨cx, ox, te, cd, "free", ns2, ([] : List (Str × Kd)), rfl, upd_same, hLK.same (same_make hcx hcd ncd), (hTJ.same sK).same (same_make hcx hcd ncd), TOK, fun HM sxM hBM => ⟨rfl, ?_⟩⟩⟩
            have sM := sameX_make hcx hcd ncd sxM
            have sHM := sHK.trans sM
            refine ⟨_, rfl, _, rfl, cx, ox, "free", ns2, ([] : List (Str × Kd)), k, v, .ref hpp, rfl, hBM, hLK.same sM, fun e => absurd e (by decide +kernel), TOK, hSZ, hkJ.same (sK.trans sM), kl26, ksz9, .inr ⟨hpp, lp, z, ns, J, lo, rfl, (hs.same sHM).h, hOk, hL.same sHM, fun HO sO => ?_⟩⟩
            rw [decide_eq_false (show ¬ (z = "free" ∧ ns = ns2) from fun e => zf e.1), Bool.false_and]
            exact ⟨_, _, rfl, rfl, q HO (sHM.trans sO)⟩
        | true =>
          rw [hall, Bool.true_and] at agE
          refine iteT ?_
          refine ⟨_, rfl, _, rfl, _, rfl, ja, d, J, List.range m, lo, k, v, rfl, hs.t.same s68, hs.M, by omega, hs.l.same s68, hs.ok, hk8, dep k ksz9, fun H9 p9 s9 hp9 => ?_⟩
          refine ⟨p9, _, rfl, .inl (SqL.of hp9), rfl, flat_N _, ?_⟩
          dsimp only
          rw [if_pos rfl, show V.int 0 = nV 0 from rfl, inV_N]
          have s69 := s68.trans s9
          have HQ : Same H7 H9 := s8.trans s9
          have hB9 := (hB6.same s7).same HQ
          have hL9 := hL.same s69
          have hk9 := hk.same HQ
          have hs9 := hs.same s69
          have hOk : HsOk J lo := ⟨hs.M, by omega, hs.ok.asc, hs.ok.lt⟩
          refine ⟨_, rfl, _, rfl, _, rfl, bx, lp, z, ns, ([] : List (Str × Kd)), k, v, .ref hpp, rfl, hB9, hL9, ONCE, TOK, hSZ, hk9, kl26, ksz9, .inr ⟨hpp, lp, z, ns, J, lo, rfl, hs9.h, hOk, hL9, fun HG sG => ?_⟩⟩
          rw [decide_eq_true (show z = z ∧ ns = ns from ⟨rfl, rfl⟩), Bool.true_and, agE]
          refine ⟨_, rfl, _, _, rfl, ?_⟩
          rw [decide_eq_true rfl]
          refine ⟨true, rfl, iteF ?_⟩
          have sHG := s69.trans sG
          have hBG := hB9.same sG
          refine ⟨_, rfl, _, rfl, pd, bx, lp, ([] : List (Str × Kd)), rfl, hp.same sHG, hBG, fun HI ov sI nh => ?_⟩
          obtain ⟨ot, o1, o2, o3⟩ := nh
          have sHI := sHG.trans sI
          refine ⟨_, rfl, _, rfl, _, rfl, bx, lp, z, ns, ([] : List (Str × Kd)), k, v, ov, rfl, hBG.same sI, hL.same sHI, ONCE, TOK, hSZ, hk9.same (sG.trans sI), kl26, ksz9, .inl ⟨ot, o1, o2, o3, fun HJ sJ => ?_⟩⟩
          refine ⟨_, _, rfl, ?_⟩
          rw [decide_eq_true rfl]
          refine ⟨true, rfl, iteF ?_⟩
          have sHJ := sHI.trans sJ
          have hTJ := (hT7.same HQ).same ((sG.trans sI).trans sJ)
          have hkJ := hk9.same ((sG.trans sI).trans sJ)
          refine ⟨_, rfl, _, _, _, _, rfl, rfl, SqT.of (sHJ _ _ hsp), rfl, rfl, _, rfl, ?_⟩
          rw [dec_str]
          by_cases zf : z = "free"
          · rw [show (z == ("free" : Str)) = true from beq_iff_eq.mpr zf]
            refine iteT ?_
            refine ⟨Nat.zero_le _, fun et het => ?_⟩
            intro ox od hox hod nod
            have tE : Same HJ (upd HJ et (.tup [])) := same_upd het
            refine ⟨ox, et, od, "loan", [], rfl, upd_same, same_make hox hod nod _ _ upd_same, lotOk_nil (.inl rfl), Nat.zero_le _, fun HK ns2 sxK hLK okK _ => ⟨rfl, ?_⟩⟩
            have sK := tE.trans (sameX_make hox hod nod sxK)
            have sHK := sHJ.trans sK
            refine ⟨_, rfl, _, _, _, _, rfl, rfl, SqT.of (sHK _ _ hsp), rfl, rfl, _, rfl, ?_⟩
            rw [dec_str]
            by_cases zo : z = "once"
            · rw [show (z == ("once" : Str)) = true from beq_iff_eq.mpr zo]
              exact iteT (q HK sHK)
            rw [show (z == ("once" : Str)) = false from beq_eq_false_iff_ne.mpr zo]
            refine iteF ?_
            refine ⟨_, rfl, _, rfl, fun cx cd hcx hcd ncd => ⟨cx, ox, te, cd, "loan", ns2, ([] : List (Str × Kd)), rfl, upd_same, hLK.same (same_make hcx hcd ncd), (hTJ.same sK).same (same_make hcx hcd ncd), TOK, fun HM sxM hBM => ⟨rfl, ?_⟩⟩⟩
            have sM := sameX_make hcx hcd ncd sxM
            have sHM := sHK.trans sM
            refine ⟨_, rfl, _, rfl, cx, ox, "loan", ns2, ([] : List (Str × Kd)), k, v, .ref hpp, rfl, hBM, hLK.same sM, fun e => absurd e (by decide +kernel), TOK, hSZ, hkJ.same (sK.trans sM), kl26, ksz9, .inr ⟨hpp, lp, z, ns, J, lo, rfl, (hs.same sHM).h, hOk, hL.same sHM, fun HO sO => ?_⟩⟩
            rw [decide_eq_false (show ¬ (z = "loan" ∧ ns = ns2) from fun e => (fun e => by rw [zf] at e; exact absurd e (by decide +kernel)) e.1), Bool.false_and]
            exact ⟨_, _, rfl, rfl, q HO (sHM.trans sO)⟩
          · rw [show (z == ("free" : Str)) = false from beq_eq_false_iff_ne.mpr zf]
            refine iteF ?_
            refine ⟨Nat.zero_le _, fun et het => ?_⟩
            intro ox od hox hod nod
            have tE : Same HJ (upd HJ et (.tup [])) := same_upd het
            refine ⟨ox, et, od, "free", [], rfl, upd_same, same_make hox hod nod _ _ upd_same, lotOk_nil (.inr rfl), Nat.zero_le _, fun HK ns2 sxK hLK okK _ => ⟨rfl, ?_⟩⟩
            have sK := tE.trans (sameX_make hox hod nod sxK)
            have sHK := sHJ.trans sK
            refine ⟨_, rfl, _, _, _, _, rfl, rfl, SqT.of (sHK _ _ hsp), rfl, rfl, _, rfl, ?_⟩
            rw [dec_str]
            by_cases zo : z = "once"
            · rw [show (z == ("once" : Str)) = true from beq_iff_eq.mpr zo]
              exact iteT (q HK sHK)
            rw [show (z == ("once" : Str)) = false from beq_eq_false_iff_ne.mpr zo]
            refine iteF ?_
            refine ⟨_, rfl, _, rfl, fun cx cd hcx hcd ncd => ⟨cx, ox, te, cd, "free", ns2, ([] : List (Str × Kd)), rfl, upd_same, hLK.same (same_make hcx hcd ncd), (hTJ.same sK).same (same_make hcx hcd ncd), TOK, fun HM sxM hBM => ⟨rfl, ?_⟩⟩⟩
            have sM := sameX_make hcx hcd ncd sxM
            have sHM := sHK.trans sM
            refine ⟨_, rfl, _, rfl, cx, ox, "free", ns2, ([] : List (Str × Kd)), k, v, .ref hpp, rfl, hBM, hLK.same sM, fun e => absurd e (by decide +kernel), TOK, hSZ, hkJ.same (sK.trans sM), kl26, ksz9, .inr ⟨hpp, lp, z, ns, J, lo, rfl, (hs.same sHM).h, hOk, hL.same sHM, fun HO sO => ?_⟩⟩
            rw [decide_eq_false (show ¬ (z = "free" ∧ ns = ns2) from fun e => zf e.1), Bool.false_and]
            exact ⟨_, _, rfl, rfl, q HO (sHM.trans sO)⟩
      · rw [show ((r2 : Int) == 0) = false from beq_eq_false_iff_ne.mpr c0]
        refine iteF ?_
        have SH := a3
        have HT := hT
        have ONCE : z = "once" → ts = [] := fun e => absurd e zo
        have TOK := tok
        have hSZ := tsz
        refine ⟨_, rfl, _, rfl, fun bx bd hbx hbd nbd => ⟨bx, lp, ta, bd, z, ns, ts, rfl, upd_same, (hL.same SH).same (same_make hbx hbd nbd), HT.same (same_make hbx hbd nbd), TOK, fun H6 sx6 hB6 => ⟨rfl, ?_⟩⟩⟩
        have s6a := sameX_make hbx hbd nbd sx6
        have hT6 := HT.same s6a
        have s6 := SH.trans s6a
        refine ⟨_, rfl, pd, 8, 3, rfl, hp.same s6, by decide, by decide, by decide, by decide, fun H7 v k s7 hk ksz klt => ?_⟩
        refine ⟨_, _, rfl, ?_⟩
        have s67 := s6.trans s7
        have hT7 := hT6.same s7
        obtain ⟨bs7, hbs7, hts7⟩ := id hT7
        have kl26 := Kd.lets_le (show 3 ≤ 26 by decide) klt
        have ksz9 : k.size ≤ 9 := Nat.le_trans ksz (by decide)
        have dep : ∀ k : Kd, k.size ≤ 9 → k.depth ≤ 9 := fun k h => by have := Kd.depth_lt k; omega
        refine ⟨_, rfl, ta, rfl, ⟨_, SqT.of hbs7⟩, fun D hD => ?_⟩
        refine lc_it walk_tup (LcP H7 D (fun i acc _ => acc = ((ts).take i).map fun t => V.bl (decide (0 ∈ stN J lo t.2)))) (LcP.zero hD rfl) (fun i H8 _ ⟨_, s8, _⟩ => SqT.of (s8 _ _ hbs7)) ?_ fun H8 h8 => ?_
        · rintro i x H8 _ hi ⟨acc, s8, hda, hle, e⟩ ⟨rfl, hx⟩
          obtain ⟨c, hc, rfl⟩ := ref_at hx
          obtain ⟨t, ht, vv, hv, hkd⟩ := pairedAt2 hts7 hc
          have tm := List.mem_of_getElem? ht
          refine ⟨c, _, rfl, SqT.of (s8 _ _ hv), rfl, _, _, rfl, _, _, rfl, rfl, rfl, ?_⟩
          refine ⟨_, rfl, _, rfl, _, rfl, ja, d, J, List.range m, lo, t.2, vv, rfl, hs.t.same (s67.trans s8), hs.M, by omega, hs.l.same (s67.trans s8), hs.ok, hkd.same s8, dep _ (hSZ t tm), fun H9 p9 s9 hp9 => ?_⟩
          refine ⟨p9, _, rfl, .inl (SqL.of hp9), rfl, flat_N _, ?_⟩
          dsimp only
          rw [if_neg Bool.false_ne_true, show V.int 0 = nV 0 from rfl, inV_N]
          refine LcP.put hD s8 hda hle (Nat.lt_of_lt_of_le hi (by rw [List.length_map, pairedLen hts7]; exact Nat.le_trans TOK.len (by decide))) s9 ?_
          rw [e]
          exact take_succ_map ht
        obtain ⟨hq8, s8⟩ := finMap (K := K) (by rw [List.length_map, pairedLen hts7]) h8
        refine ⟨D, _, rfl, hq8, ?_⟩
        rw [all_map]
        have s68 := s67.trans s8
        have hk8 := hk.same s8
        have asck := stN_asc (J := J) hs.ok.asc
        have stands : ∀ H9, Same H8 H9 → ∃ c : Bool, c = true := fun _ _ => ⟨true, rfl⟩
        have agE : agN J lo ts k = ((ts).all (fun t => decide (0 ∈ stN J lo t.2)) && !decide (0 ∈ stN J lo k)) := rfl
        refine ⟨_, rfl, _, rfl, ?_⟩
        cases hall : (ts).all (fun t => decide (0 ∈ stN J lo t.2)) with
        | false =>
          rw [hall, Bool.false_and] at agE
          refine iteF ?_
          have s8B := s8
          have HQ : Same H7 H8 := s8
          have hB9 := (hB6.same s7).same HQ
          have hL9 := hL.same s68
          have hk9 := hk.same HQ
          have hs9 := hs.same s68
          have hOk : HsOk J lo := ⟨hs.M, by omega, hs.ok.asc, hs.ok.lt⟩
          refine ⟨_, rfl, _, rfl, _, rfl, bx, lp, z, ns, ts, k, v, .ref hpp, rfl, hB9, hL9, ONCE, TOK, hSZ, hk9, kl26, ksz9, .inr ⟨hpp, lp, z, ns, J, lo, rfl, hs9.h, hOk, hL9, fun HG sG => ?_⟩⟩
          rw [decide_eq_true (show z = z ∧ ns = ns from ⟨rfl, rfl⟩), Bool.true_and, agE]
          refine ⟨_, rfl, _, _, rfl, ?_⟩
          rw [decide_eq_true rfl]
          refine ⟨true, rfl, iteF ?_⟩
          have sHG := s68.trans sG
          have hBG := hB9.same sG
          refine ⟨_, rfl, _, rfl, pd, bx, lp, ts, rfl, hp.same sHG, hBG, fun HI ov sI nh => ?_⟩
          obtain ⟨ot, o1, o2, o3⟩ := nh
          have sHI := sHG.trans sI
          refine ⟨_, rfl, _, rfl, _, rfl, bx, lp, z, ns, ts, k, v, ov, rfl, hBG.same sI, hL.same sHI, ONCE, TOK, hSZ, hk9.same (sG.trans sI), kl26, ksz9, .inl ⟨ot, o1, o2, o3, fun HJ sJ => ?_⟩⟩
          refine ⟨_, _, rfl, ?_⟩
          rw [decide_eq_true rfl]
          refine ⟨true, rfl, iteF ?_⟩
          have sHJ := sHI.trans sJ
          have hTJ := (hT7.same HQ).same ((sG.trans sI).trans sJ)
          have hkJ := hk9.same ((sG.trans sI).trans sJ)
          refine ⟨_, rfl, _, _, _, _, rfl, rfl, SqT.of (sHJ _ _ hsp), rfl, rfl, _, rfl, ?_⟩
          rw [dec_str]
          by_cases zf : z = "free"
          · rw [show (z == ("free" : Str)) = true from beq_iff_eq.mpr zf]
            refine iteT ?_
            refine ⟨Nat.zero_le _, fun et het => ?_⟩
            intro ox od hox hod nod
            have tE : Same HJ (upd HJ et (.tup [])) := same_upd het
            refine ⟨ox, et, od, "loan", [], rfl, upd_same, same_make hox hod nod _ _ upd_same, lotOk_nil (.inl rfl), Nat.zero_le _, fun HK ns2 sxK hLK okK _ => ⟨rfl, ?_⟩⟩
            have sK := tE.trans (sameX_make hox hod nod sxK)
            have sHK := sHJ.trans sK
            refine ⟨_, rfl, _, _, _, _, rfl, rfl, SqT.of (sHK _ _ hsp), rfl, rfl, _, rfl, ?_⟩
            rw [dec_str]
            by_cases zo : z = "once"
            · rw [show (z == ("once" : Str)) = true from beq_iff_eq.mpr zo]
              exact iteT (q HK sHK)
            rw [show (z == ("once" : Str)) = false from beq_eq_false_iff_ne.mpr zo]
            refine iteF ?_
            refine ⟨_, rfl, _, rfl, fun cx cd hcx hcd ncd => ⟨cx, ox, ta, cd, "loan", ns2, ts, rfl, upd_same, hLK.same (same_make hcx hcd ncd), (hTJ.same sK).same (same_make hcx hcd ncd), TOK, fun HM sxM hBM => ⟨rfl, ?_⟩⟩⟩
            have sM := sameX_make hcx hcd ncd sxM
            have sHM := sHK.trans sM
            refine ⟨_, rfl, _, rfl, cx, ox, "loan", ns2, ts, k, v, .ref hpp, rfl, hBM, hLK.same sM, fun e => absurd e (by decide +kernel), TOK, hSZ, hkJ.same (sK.trans sM), kl26, ksz9, .inr ⟨hpp, lp, z, ns, J, lo, rfl, (hs.same sHM).h, hOk, hL.same sHM, fun HO sO => ?_⟩⟩
            rw [decide_eq_false (show ¬ (z = "loan" ∧ ns = ns2) from fun e => (fun e => by rw [zf] at e; exact absurd e (by decide +kernel)) e.1), Bool.false_and]
            exact ⟨_, _, rfl, rfl, q HO (sHM.trans sO)⟩
          · rw [show (z == ("free" : Str)) = false from beq_eq_false_iff_ne.mpr zf]
            refine iteF ?_
            refine ⟨Nat.zero_le _, fun et het => ?_⟩
            intro ox od hox hod nod
            have tE : Same HJ (upd HJ et (.tup [])) := same_upd het
            refine ⟨ox, et, od, "free", [], rfl, upd_same, same_make hox hod nod _ _ upd_same, lotOk_nil (.inr rfl), Nat.zero_le _, fun HK ns2 sxK hLK okK _ => ⟨rfl, ?_⟩⟩
            have sK := tE.trans (sameX_make hox hod nod sxK)
            have sHK := sHJ.trans sK
            refine ⟨_, rfl, _, _, _, _, rfl, rfl, SqT.of (sHK _ _ hsp), rfl, rfl, _, rfl, ?_⟩
            rw [dec_str]
            by_cases zo : z = "once"
            · rw [show (z == ("once" : Str)) = true from beq_iff_eq.mpr zo]
              exact iteT (q HK sHK)
            rw [show (z == ("once" : Str)) = false from beq_eq_false_iff_ne.mpr zo]
            refine iteF ?_
            refine ⟨_, rfl, _, rfl, fun cx cd hcx hcd ncd => ⟨cx, ox, ta, cd, "free", ns2, ts, rfl, upd_same, hLK.same (same_make hcx hcd ncd), (hTJ.same sK).same (same_make hcx hcd ncd), TOK, fun HM sxM hBM => ⟨rfl, ?_⟩⟩⟩
            have sM := sameX_make hcx hcd ncd sxM
            have sHM := sHK.trans sM
            refine ⟨_, rfl, _, rfl, cx, ox, "free", ns2, ts, k, v, .ref hpp, rfl, hBM, hLK.same sM, fun e => absurd e (by decide +kernel), TOK, hSZ, hkJ.same (sK.trans sM), kl26, ksz9, .inr ⟨hpp, lp, z, ns, J, lo, rfl, (hs.same sHM).h, hOk, hL.same sHM, fun HO sO => ?_⟩⟩
            rw [decide_eq_false (show ¬ (z = "free" ∧ ns = ns2) from fun e => zf e.1), Bool.false_and]
            exact ⟨_, _, rfl, rfl, q HO (sHM.trans sO)⟩
        | true =>
          rw [hall, Bool.true_and] at agE
          refine iteT ?_
          refine ⟨_, rfl, _, rfl, _, rfl, ja, d, J, List.range m, lo, k, v, rfl, hs.t.same s68, hs.M, by omega, hs.l.same s68, hs.ok, hk8, dep k ksz9, fun H9 p9 s9 hp9 => ?_⟩
          refine ⟨p9, _, rfl, .inl (SqL.of hp9), rfl, flat_N _, ?_⟩
          dsimp only
          rw [if_pos rfl, show V.int 0 = nV 0 from rfl, inV_N]
          have s69 := s68.trans s9
          have HQ : Same H7 H9 := s8.trans s9
          have hB9 := (hB6.same s7).same HQ
          have hL9 := hL.same s69
          have hk9 := hk.same HQ
          have hs9 := hs.same s69
          have hOk : HsOk J lo := ⟨hs.M, by omega, hs.ok.asc, hs.ok.lt⟩
          refine ⟨_, rfl, _, rfl, _, rfl, bx, lp, z, ns, ts, k, v, .ref hpp, rfl, hB9, hL9, ONCE, TOK, hSZ, hk9, kl26, ksz9, .inr ⟨hpp, lp, z, ns, J, lo, rfl, hs9.h, hOk, hL9, fun HG sG => ?_⟩⟩
          rw [decide_eq_true (show z = z ∧ ns = ns from ⟨rfl, rfl⟩), Bool.true_and, agE]
          refine ⟨_, rfl, _, _, rfl, ?_⟩
          rw [decide_eq_true rfl]
          refine ⟨true, rfl, iteF ?_⟩
          have sHG := s69.trans sG
          have hBG := hB9.same sG
          refine ⟨_, rfl, _, rfl, pd, bx, lp, ts, rfl, hp.same sHG, hBG, fun HI ov sI nh => ?_⟩
          obtain ⟨ot, o1, o2, o3⟩ := nh
          have sHI := sHG.trans sI
          refine ⟨_, rfl, _, rfl, _, rfl, bx, lp, z, ns, ts, k, v, ov, rfl, hBG.same sI, hL.same sHI, ONCE, TOK, hSZ, hk9.same (sG.trans sI), kl26, ksz9, .inl ⟨ot, o1, o2, o3, fun HJ sJ => ?_⟩⟩
          refine ⟨_, _, rfl, ?_⟩
          rw [decide_eq_true rfl]
          refine ⟨true, rfl, iteF ?_⟩
          have sHJ := sHI.trans sJ
          have hTJ := (hT7.same HQ).same ((sG.trans sI).trans sJ)
          have hkJ := hk9.same ((sG.trans sI).trans sJ)
          refine ⟨_, rfl, _, _, _, _, rfl, rfl, SqT.of (sHJ _ _ hsp), rfl, rfl, _, rfl, ?_⟩
          rw [dec_str]
          by_cases zf : z = "free"
          · rw [show (z == ("free" : Str)) = true from beq_iff_eq.mpr zf]
            refine iteT ?_
            refine ⟨Nat.zero_le _, fun et het => ?_⟩
            intro ox od hox hod nod
            have tE : Same HJ (upd HJ et (.tup [])) := same_upd het
            refine ⟨ox, et, od, "loan", [], rfl, upd_same, same_make hox hod nod _ _ upd_same, lotOk_nil (.inl rfl), Nat.zero_le _, fun HK ns2 sxK hLK okK _ => ⟨rfl, ?_⟩⟩
            have sK := tE.trans (sameX_make hox hod nod sxK)
            have sHK := sHJ.trans sK
            refine ⟨_, rfl, _, _, _, _, rfl, rfl, SqT.of (sHK _ _ hsp), rfl, rfl, _, rfl, ?_⟩
            rw [dec_str]
            by_cases zo : z = "once"
            · rw [show (z == ("once" : Str)) = true from beq_iff_eq.mpr zo]
              exact iteT (q HK sHK)
            rw [show (z == ("once" : Str)) = false from beq_eq_false_iff_ne.mpr zo]
            refine iteF ?_
            refine ⟨_, rfl, _, rfl, fun cx cd hcx hcd ncd => ⟨cx, ox, ta, cd, "loan", ns2, ts, rfl, upd_same, hLK.same (same_make hcx hcd ncd), (hTJ.same sK).same (same_make hcx hcd ncd), TOK, fun HM sxM hBM => ⟨rfl, ?_⟩⟩⟩
            have sM := sameX_make hcx hcd ncd sxM
            have sHM := sHK.trans sM
            refine ⟨_, rfl, _, rfl, cx, ox, "loan", ns2, ts, k, v, .ref hpp, rfl, hBM, hLK.same sM, fun e => absurd e (by decide +kernel), TOK, hSZ, hkJ.same (sK.trans sM), kl26, ksz9, .inr ⟨hpp, lp, z, ns, J, lo, rfl, (hs.same sHM).h, hOk, hL.same sHM, fun HO sO => ?_⟩⟩
            rw [decide_eq_false (show ¬ (z = "loan" ∧ ns = ns2) from fun e => (fun e => by rw [zf] at e; exact absurd e (by decide +kernel)) e.1), Bool.false_and]
            exact ⟨_, _, rfl, rfl, q HO (sHM.trans sO)⟩
          · rw [show (z == ("free" : Str)) = false from beq_eq_false_iff_ne.mpr zf]
            refine iteF ?_
            refine ⟨Nat.zero_le _, fun et het => ?_⟩
            intro ox od hox hod nod
            have tE : Same HJ (upd HJ et (.tup [])) := same_upd het
            refine ⟨ox, et, od, "free", [], rfl, upd_same, same_make hox hod nod _ _ upd_same, lotOk_nil (.inr rfl), Nat.zero_le _, fun HK ns2 sxK hLK okK _ => ⟨rfl, ?_⟩⟩
            have sK := tE.trans (sameX_make hox hod nod sxK)
            have sHK := sHJ.trans sK
            refine ⟨_, rfl, _, _, _, _, rfl, rfl, SqT.of (sHK _ _ hsp), rfl, rfl, _, rfl, ?_⟩
            rw [dec_str]
            by_cases zo : z = "once"
            · rw [show (z == ("once" : Str)) = true from beq_iff_eq.mpr zo]
              exact iteT (q HK sHK)
            rw [show (z == ("once" : Str)) = false from beq_eq_false_iff_ne.mpr zo]
            refine iteF ?_
            refine ⟨_, rfl, _, rfl, fun cx cd hcx hcd ncd => ⟨cx, ox, ta, cd, "free", ns2, ts, rfl, upd_same, hLK.same (same_make hcx hcd ncd), (hTJ.same sK).same (same_make hcx hcd ncd), TOK, fun HM sxM hBM => ⟨rfl, ?_⟩⟩⟩
            have sM := sameX_make hcx hcd ncd sxM
            have sHM := sHK.trans sM
            refine ⟨_, rfl, _, rfl, cx, ox, "free", ns2, ts, k, v, .ref hpp, rfl, hBM, hLK.same sM, fun e => absurd e (by decide +kernel), TOK, hSZ, hkJ.same (sK.trans sM), kl26, ksz9, .inr ⟨hpp, lp, z, ns, J, lo, rfl, (hs.same sHM).h, hOk, hL.same sHM, fun HO sO => ?_⟩⟩
            rw [decide_eq_false (show ¬ (z = "free" ∧ ns = ns2) from fun e => zf e.1), Bool.false_and]
            exact ⟨_, _, rfl, rfl, q HO (sHM.trans sO)⟩
end
end UC
set_option Elab.async false
set_option linter.all false
set_option maxRecDepth 100000
set_option maxHeartbeats 8000000
set_option pp.maxSteps 400
/-! The great house. -/
namespace UC
open PySem PySem.Spec PyProof.Rows L2
section
variable {P : Program} {w : World} {K : PySem.W.Frag} {mg : Str → Option Value} {base : Heap}
theorem calm_small {w : World} {k : Kd} (h : k.size ≤ 9) : k.calm w := .inl (by have := Kd.depth_lt k; omega)
def sp_law_great : Sp := fun vs H Q _ => ∃ d : Addr, vs = [.ref d] ∧ PoolAt H d ∧ ∀ H', Same H H' → Q (.bl true) H'
theorem sc_law_great_right : FnScope ["_law_pool_here", "_law_many", "_law_step", "_law_joining_here", "_law_letters_here", "_law_letter", "_law_some", "_law_house", "_law_again", "_law_kind_here", "_law_u", "_law_rest", "_law_v"] ["_law_pool_here"] (defScope s_law_great_right) := ⟨rfl, rfl, rfl, by decide +kernel, rfl, by decide +kernel, by decide +kernel⟩
theorem ok_law_great (T : Txt K mg) : Pr P w K mg base 13 "_law_great_right" ["_law_pool_here"] sp_law_great := by
  have G_law_draw : Pr P w K mg base 1 "_law_draw" _ _ := ok_law_draw T
  have G_law_kind : Pr P w K mg base 12 "_law_kind" _ _ := ok_law_kind T 10 (by decide)
  have G_law_stands : Pr P w K mg base 10 "_law_stands" _ _ := ok_law_stands T 9 (by decide)
  have G_stands_with : Pr P w K mg base 5 "stands_with" _ _ := ok_stands_with T
  have G_Lot_init : PrM P w K mg base 4 "Lot" "__init__" _ _ := ok_Lot_init T
  have G_House_init : PrM P w K mg base 4 "House" "__init__" _ _ := ok_House_init T
  refine T.d_law_great_right.pr sc_law_great_right (fun vs H Q E h => ?_) (fun _ _ _ _ _ _ us hl => match us, hl with | [_], _ => rfl) (fun f cdv A outer s H vs Q E hr h => ?_)
  · obtain ⟨d, rfl, _⟩ := h
    rfl
  · obtain ⟨pd, rfl, hp, q⟩ := h
    have hu := hu_of hr
    have hu64 := roomU hr
    refine ⟨_, (pss_cons (ps_asg (pe_tup (pa_cons (pe_op op_add pe_int (pe_callP G_law_draw hr (by decide) (pa_cons (pv 0) (pa_cons pe_int pa_nil)))) (pa_cons (pe_op op_add pe_int (pe_callP G_law_draw hr (by decide) (pa_cons (pv 0) (pa_cons pe_int pa_nil)))) pa_nil))) (pg_tup rfl (pgs_cons (pg_n 1 sc_law_great_right.nd) (pgs_cons (pg_n 2 sc_law_great_right.nd) pgs_nil))))
    (pss_cons (ps_s 1 sc_law_great_right.nd (pe_op op_sub (pv 1) (pe_op op_mod (pe_callTy call_int1 rfl T.b_int (by decide +kernel) (pa_cons (pv 1) pa_nil)) (pv 2))))
    (pss_cons (ps_s 3 sc_law_great_right.nd (pe_callTy call_tuple_of rfl T.b_tuple (by decide +kernel) (pa_cons (pe_lc (own := [("_law_u", 10)]) (g := gName 10) (tt := tYes) rfl sc_law_great_right.nd (pi_range1 rfl T.b_range (pa_cons (pv 1) pa_nil)) (blkOk_by (N := ["_law_pool_here", "_law_many", "_law_step", "_law_joining_here", "_law_letters_here", "_law_letter", "_law_some", "_law_house", "_law_again", "_law_kind_here", "_law_u", "_law_rest", "_law_v"]) (sc := defScope s_law_great_right) (by decide +kernel)) (fun _ _ _ _ _ => (pg_n 10 sc_law_great_right.nd)) (fun _ _ _ _ _ => pts_nil) (fun _ _ _ _ _ => (pe_callTy (call_tuple_ofK (K := K) rfl) rfl T.b_tuple (by decide +kernel) (pa_cons (pe_lc (own := [("_law_v", 12)]) (g := gName 12) (tt := tYes) rfl sc_law_great_right.nd (pi_range1 rfl T.b_range (pa_cons (pv 1) pa_nil)) (blkOk_by (by rfl)) (fun _ _ _ _ _ => (pg_n 12 sc_law_great_right.nd)) (fun _ _ _ _ _ => pts_nil) (fun _ _ _ _ _ => (pe_op op_mod (pe_callTy call_int1 rfl T.b_int (by decide +kernel) (pa_cons (pe_op op_add (pv 10) (pv 12)) pa_nil)) (pv 1)))) pa_nil)))) pa_nil)))
    (pss_cons (ps_s 4 sc_law_great_right.nd pe_dnewK)
    (pss_cons (ps_for PassesOwn.never rfl (pi_range1 rfl T.b_range (pa_cons pe_int pa_nil)) (pg_n 5 sc_law_great_right.nd)
      (pss_cons (ps_s 6 sc_law_great_right.nd (pe_lc (own := [("_law_rest", 11)]) (g := gName 11) rfl sc_law_great_right.nd (pi_range1 rfl T.b_range (pa_cons (pv 2) pa_nil)) (blkOk_by (N := ["_law_pool_here", "_law_many", "_law_step", "_law_joining_here", "_law_letters_here", "_law_letter", "_law_some", "_law_house", "_law_again", "_law_kind_here", "_law_u", "_law_rest", "_law_v"]) (sc := defScope s_law_great_right) (by decide +kernel)) (fun _ _ _ _ _ => (pg_n 11 sc_law_great_right.nd)) (fun _ _ _ _ _ => (pts_one (pt_cmpR op_eq (pe_callP G_law_draw hr (by decide) (pa_cons (pv 0) (pa_cons pe_int pa_nil))) pe_int (nomark _)))) (fun _ _ _ _ _ => (pv 11))))
      (pss_one (ps_dput hu (pv 4) (pv 5) (pe_callTy call_tuple_of rfl T.b_tuple (by decide +kernel) (pa_cons (pe_lc (own := [("_law_u", 10)]) (g := gName 10) rfl sc_law_great_right.nd (pi_range1 rfl T.b_range (pa_cons (pv 1) pa_nil)) (blkOk_by (N := ["_law_pool_here", "_law_many", "_law_step", "_law_joining_here", "_law_letters_here", "_law_letter", "_law_some", "_law_house", "_law_again", "_law_kind_here", "_law_u", "_law_rest", "_law_v"]) (sc := defScope s_law_great_right) (by decide +kernel)) (fun _ _ _ _ _ => (pg_n 10 sc_law_great_right.nd)) (fun _ _ _ _ _ => (pts_one (pt_cmpR (op_inK (K := K) rfl) (pe_op op_mod (pe_callTy call_int1 rfl T.b_int (by decide +kernel) (pa_cons (pv 10) pa_nil)) (pv 2)) (pv 6) (by with_unfolding_all rfl)))) (fun _ _ _ _ _ => (pv 10))) pa_nil)) rfl))))
    (pss_cons (ps_s 7 sc_law_great_right.nd (pe_makeP G_House_init T.m_House T.g_House hr (by decide) (pa_cons (pe_makeP G_Lot_init T.m_Lot T.g_Lot hr (by decide) (pa_cons pe_str (pa_cons (pe_tup (pa_cons (pv 2) pa_nil)) pa_nil))) (pa_cons (pv 3) (pa_cons (pv 4) pa_nil)))))
    (pss_cons (ps_for PassesOwn.never rfl (pi_range1 rfl T.b_range (pa_cons pe_int pa_nil)) (pg_n 8 sc_law_great_right.nd)
      (pss_cons (ps_s 9 sc_law_great_right.nd (pe_callP G_law_kind hr (by decide) (pa_cons (pv 0) (pa_cons pe_int (pa_cons pe_int pa_nil)))))
      (pss_one (ps_if (pt_cmpR (op_neD hu64) (pe_callTy call_list_of rfl T.b_list (by decide +kernel) (pa_cons (pe_callP G_stands_with hr (by decide) (pa_cons (pv 7) (pa_cons (pv 9) pa_nil))) pa_nil)) (pe_callP G_law_stands hr (by decide) (pa_cons (pv 3) (pa_cons (pv 4) (pa_cons (pv 9) pa_nil)))) (nomark _))
        (pss_one (ps_ret pe_bl))
        pss_nil))))
    (pss_one (ps_ret pe_bl))))))))), ?_⟩
    simp only [st_c, st_n, st_0]
    refine ⟨_, rfl, pd, 188, rfl, hp, by decide, by decide, fun r1 hr1 => ⟨_, _, rfl, rfl, _, rfl, pd, 4, rfl, hp, by decide, by decide, fun r2 hr2 => ⟨_, _, rfl, rfl, Nat.le_of_ble_eq_true rfl, fun tp htp => ⟨tp, _, rfl, SqT.of upd_same, rfl, _, _, rfl, _, _, rfl, rfl, ?_⟩⟩⟩⟩
    have sA : Same H (upd H tp (.tup [.int (13 + (r1 : Int)), .int (1 + (r2 : Int))])) := same_upd htp
    generalize upd H tp (.tup [.int (13 + (r1 : Int)), .int (1 + (r2 : Int))]) = HA at sA ⊢
    have tpos : (0 : Int) < 1 + (r2 : Int) := by omega
    refine ⟨_, rfl, _, rfl, .inl ⟨_, rfl, _, rfl, _, _, rfl, rfl, tpos, _, _, rfl, rfl, ?_⟩⟩
    obtain ⟨t, et, t1, t4⟩ : ∃ t : Nat, (1 + (r2 : Int)) = (t : Int) ∧ 1 ≤ t ∧ t ≤ 4 := ⟨1 + r2, by omega, by omega, by omega⟩
    obtain ⟨n, en, n1, n2, nt⟩ : ∃ n : Nat, (13 + (r1 : Int)) - (13 + (r1 : Int)) % (1 + (r2 : Int)) = (n : Int) ∧ 1 ≤ n ∧ n ≤ 200 ∧ t ∣ n := by
      have h1 : (13 + r1) % t < t := Nat.mod_lt _ t1
      refine ⟨(13 + r1) - (13 + r1) % t, ?_, by omega, by omega, Nat.dvd_sub_mod (13 + r1)⟩
      rw [et]
      have e2 : ((13 + (r1 : Int)) % (t : Int)) = (((13 + r1) % t : Nat) : Int) := by rw [Int.natCast_emod, Int.natCast_add]; rfl
      rw [e2]
      omega
    rw [et]
    have enT : (13 + (r1 : Int)) - (13 + (r1 : Int)) % (t : Int) = (n : Int) := by rw [← et]; exact en
    dsimp only
    rw [enT]
    have M := gJ_mon n1
    have gl := gJ_len n
    refine ⟨_, rfl, _, rfl, by omega, by omega, fun D3 hD3 => ?_⟩
    refine lc_range (lo := 0) (n := n) (LcP HA D3 (fun i acc H' => ∃ bs : List Addr, acc = bs.map V.ref ∧ Paired (fun b (r : List Nat) => b ≠ D3 ∧ H' b = some (.tup (r.map nV))) bs ((gJ n).take i))) (LcP.zero hD3 ⟨[], rfl, .nil⟩) ?_ fun HX hX => ?_
    · rintro i H4 hi ⟨acc, s4, hda, hle, bs, rfl, hps⟩
      rw [show (0 : Int) + (i : Int) = (i : Int) from Int.zero_add _]
      refine ⟨rfl, tyes ?_⟩
      refine ⟨_, rfl, _, rfl, by omega, by omega, fun D4 hD4 => ?_⟩
      refine lc_range (lo := 0) (n := n) (LcP H4 D4 (fun j acc _ => acc = ((List.range j).map fun j => nV ((i + j) % n)))) (LcP.zero hD4 rfl) ?_ fun H5 h5 => ?_
      · rintro j H5 hj ⟨acc5, s5, hda5, hle5, e5⟩
        rw [show (0 : Int) + (j : Int) = (j : Int) from Int.zero_add _]
        refine ⟨rfl, tyes ?_⟩
        refine ⟨_, rfl, _, rfl, _, _, rfl, rfl, .inl ⟨_, rfl, _, rfl, _, _, rfl, rfl, (show (0 : Int) < (n : Int) by omega), ?_⟩⟩
        refine LcP.put hD4 s5 hda5 hle5 (Nat.lt_of_lt_of_le hj (Nat.le_trans n2 (by decide))) (Same.refl _) ?_
        rw [e5, range_snoc]
        exact congrArg (fun z => _ ++ [V.int z]) (show ((i : Int) + (j : Int)) % (n : Int) = (((i + j) % n : Nat) : Int) by rw [Int.natCast_emod, Int.natCast_add])
      obtain ⟨acc5, s5, hda5, _, e5⟩ := h5
      refine ⟨D4, _, rfl, .inl ⟨SqL.of hda5, fun t6 ht6 => ?_⟩⟩
      have u6 := same_upd (o := .tup acc5) ht6
      have nD : t6 ≠ D3 := (ne_of_none (s5 _ _ hda) ht6).symm
      refine LcP.put hD3 s4 hda hle (Nat.lt_of_lt_of_le hi (Nat.le_trans n2 (by decide))) (s5.trans u6) ⟨bs ++ [t6], by rw [List.map_append]; rfl, ?_⟩
      unfold gJ at hps ⊢
      rw [tab_take hi]
      refine pairedSnoc (Paired.mapP hps fun c r ⟨q1, q2⟩ => ⟨q1, by rw [upd_ne q1]; exact (s5.trans u6) _ _ q2⟩) ⟨nD, ?_⟩
      rw [upd_ne nD, upd_same, e5, List.map_map]
      rfl
    obtain ⟨acc, sX, hdX, _, bs, rfl, hps⟩ := hX
    rw [List.take_of_length_le (by rw [gl]; exact Nat.le_refl _)] at hps
    refine ⟨D3, _, rfl, .inl ⟨SqL.of hdX, fun ja hja => ?_⟩⟩
    have cX := same_upd (o := .tup (bs.map V.ref)) hja
    have tG : TblG (upd HX ja (.tup (bs.map V.ref))) ja (gJ n) := ⟨bs, upd_same, Paired.mapP hps fun _ _ q => cX _ _ q.2⟩
    have sB := sA.trans (sX.trans cX)
    generalize upd HX ja (.tup (bs.map V.ref)) = HB at tG sB ⊢
    -- the letters
    intro d hd
    have hpB := hp.same sB
    refine ⟨2, rfl, by decide, by decide, ?_⟩
    refine for_range (lo := 0) (n := 2) (fun i σ H2 => ∃ v5 v6 v7 v8 v9 v10 v11 v12 kvs lo, ∃ R : Nat → List Nat, σ = [some (.ref pd), some (nV n), some (nV t), some (.ref ja), some (.ref d), v5, v6, v7, v8, v9, v10, v11, v12] ∧ Same HB H2 ∧ H2 d = some (.dK kvs) ∧ kvs.map (·.1) = (List.range i).map kn ∧
      (∀ l, l < i → ∃ b, valV kvs (kn l) = some (.ref b) ∧ H2 b = some (.tup ((lo l).map nV))) ∧ LetOk n (List.range i) lo ∧ ∀ l u, u ∈ lo l ↔ u < n ∧ u % t ∈ R l) ⟨_, _, _, _, _, _, _, _, [], fun _ => [], fun _ => [], (by rw [et]; rfl), same_upd hd, upd_same, rfl, fun l h => absurd h (Nat.not_lt_zero _), ⟨fun l h => absurd (List.mem_range.mp h) (Nat.not_lt_zero _), fun _ => List.Pairwise.nil, fun _ x h => (List.not_mem_nil h).elim, fun _ _ => rfl⟩, fun l u => ⟨fun h => (List.not_mem_nil h).elim, fun h => (List.not_mem_nil h.2).elim⟩⟩ ?_ ?_
    · rintro i σ H2 hi ⟨v5, v6, v7, v8, v9, v10, v11, v12, kvs, lo, R, rfl, s2, hd2, hkeys, hval, lok, hlo⟩
      rw [show (0 : Int) + (i : Int) = (i : Int) from Int.zero_add _]
      refine ⟨_, rfl, _, rfl, by omega, by omega, fun D hD => ?_⟩
      refine lc_range (lo := 0) (n := t) (LcP H2 D (fun j acc _ => ∃ B : List Nat, acc = B.map nV ∧ B.length ≤ j)) (LcP.zero hD ⟨[], rfl, Nat.le_refl _⟩) ?_ fun H3 h3 => ?_
      · rintro u H3 hu3 ⟨acc, s3, hda, hle, B, rfl, lB⟩
        rw [show (0 : Int) + (u : Int) = (u : Int) from Int.zero_add _]
        refine ⟨rfl, ?_⟩
        refine ⟨_, rfl, pd, 2, rfl, hpB.same (s2.trans s3), by decide, by decide, fun r hr4 => ⟨rfl, _, rfl, ?_⟩⟩
        rw [dec_int]
        by_cases c0 : (r : Int) = 0
        · rw [show ((r : Int) == 0) = true from beq_iff_eq.mpr c0]
          refine iteT ⟨_, rfl, ?_⟩
          exact LcP.put hD s3 hda hle (Nat.lt_of_lt_of_le hu3 (Nat.le_trans t4 (by decide))) (Same.refl _) ⟨B ++ [u], by rw [List.map_append]; rfl, by rw [List.length_append]; exact Nat.succ_le_succ lB⟩
        · rw [show ((r : Int) == 0) = false from beq_eq_false_iff_ne.mpr c0]
          exact iteF (LcP.skip s3 hda hle (Same.refl _) ⟨B, rfl, Nat.le_succ_of_le lB⟩)
      obtain ⟨acc, s3, hda, _, B, rfl, lB⟩ := h3
      have s23 := s2.trans s3
      refine ⟨_, rfl, _, rfl, by omega, by omega, fun D2 hD2 => ?_⟩
      refine lc_range (lo := 0) (n := n) (LcP H3 D2 (fun j acc _ => acc = ((List.range j).filter fun u => decide (u % t ∈ B)).map nV)) (LcP.zero hD2 rfl) ?_ fun H4 h4 => ?_
      · rintro u H4 hu4 ⟨acc4, s4, hda4, hle4, e4⟩
        rw [show (0 : Int) + (u : Int) = (u : Int) from Int.zero_add _]
        refine ⟨rfl, ?_⟩
        have em : ((u : Int) % (t : Int)) = ((u % t : Nat) : Int) := (Int.natCast_emod u t).symm
        refine ⟨_, rfl, .inl ⟨_, rfl, _, rfl, _, _, rfl, rfl, (show (0 : Int) < (t : Int) by omega), _, rfl, D, B.map nV, rfl, .inl (SqL.of (s4 _ _ hda)), rfl, flat_N B, _, rfl, ?_⟩⟩
        dsimp only
        rw [if_neg Bool.false_ne_true, em, show V.int ((u % t : Nat) : Int) = nV (u % t) from rfl, inV_N]
        have step : ((List.range (u + 1)).filter fun u => decide (u % t ∈ B)).map nV = if decide (u % t ∈ B) = true then acc4 ++ [nV u] else acc4 := by
          rw [List.range_succ, List.filter_append, List.map_append, ← e4, List.filter_cons]
          by_cases c : u % t ∈ B <;> simp [c]
        by_cases c : u % t ∈ B
        · rw [decide_eq_true c] at step ⊢
          refine iteT ⟨_, rfl, LcP.put hD2 s4 hda4 hle4 (Nat.lt_of_lt_of_le hu4 (Nat.le_trans n2 (by decide))) (Same.refl _) ?_⟩
          rw [step, if_pos rfl]
        · rw [decide_eq_false c] at step ⊢
          refine iteF (LcP.skip s4 hda4 hle4 (Same.refl _) ?_)
          rw [step]
          rfl
      obtain ⟨acc4, s4, hda4, _, e4⟩ := h4
      generalize hG : (List.range n).filter (fun u => decide (u % t ∈ B)) = G at e4
      have mG : ∀ u, u ∈ G ↔ u < n ∧ u % t ∈ B := fun u => by rw [← hG, List.mem_filter, List.mem_range, decide_eq_true_eq]
      have aG : Asc G := by rw [← hG]; exact asc_filter (asc_range n)
      rw [e4] at hda4
      refine ⟨D2, _, rfl, .inl ⟨SqL.of hda4, fun tt htt => ?_⟩⟩
      have t5 := same_upd (o := .tup (G.map nV)) htt
      have s35 := s3.trans (s4.trans t5)
      have hd5 := s35 _ _ hd2
      have kl : kvs.length = i := by have := congrArg List.length hkeys; simpa using this
      refine ⟨_, rfl, _, rfl, d, _, rfl, DPut.k (k := kn i) hd5 (Nat.lt_of_le_of_lt (show kvs.length ≤ 3 by omega) (by decide)), ?_⟩
      have new : valV kvs (kn i) = none := valV_out _ _ (by rw [hkeys]; intro z; obtain ⟨y, hy, ey⟩ := List.mem_map.mp z; have := kn_inj.mp ey; have := List.mem_range.mp hy; omega)
      have nbd : ∀ b xs, H2 b = some (.tup xs) → b ≠ d := fun b xs z e => by rw [e, hd2] at z; cases z
      refine ⟨_, _, _, _, _, _, _, _, putK kvs (kn i) (.ref tt), setLo lo i G, setLo R i B, rfl, same_put hd (s2.trans s35), upd_same, ?_, fun l hl => ?_, ⟨fun l hl => ?_, fun l => ?_, fun l => ?_, fun l hl => ?_⟩, fun l u => ?_⟩
      · rw [putK_new _ new, List.map_append, hkeys, List.range_succ, List.map_append]
        rfl
      · rw [valV_put]
        by_cases e : l = i
        · subst e
          rw [if_pos rfl, setLo_eq]
          exact ⟨tt, rfl, by rw [upd_ne (fun e => by rw [e] at htt; have := (s3.trans s4) _ _ hd2; rw [this] at htt; cases htt)]; exact upd_same⟩
        · rw [if_neg fun z => e (kn_inj.mp z), setLo_ne lo G e]
          obtain ⟨b, b1, b2⟩ := hval l (by omega)
          exact ⟨b, b1, by rw [upd_ne (nbd _ _ b2)]; exact s35 _ _ b2⟩
      · have := List.mem_range.mp hl
        omega
      · by_cases e : l = i
        · rw [e, setLo_eq]; exact aG
        · rw [setLo_ne lo G e]; exact lok.asc l
      · by_cases e : l = i
        · rw [e, setLo_eq]; exact fun x hx => ((mG x).mp hx).1
        · rw [setLo_ne lo G e]; exact lok.lt l
      · rw [List.mem_range] at hl
        rw [setLo_ne lo G (by omega)]
        exact lok.out l (by rw [List.mem_range]; omega)
      · by_cases e : l = i
        · rw [e, setLo_eq, setLo_eq]; exact mG u
        · rw [setLo_ne lo G e, setLo_ne R B e]; exact hlo l u
    · rintro σ H2 ⟨v5, v6, v7, v8, v9, v10, v11, v12, kvs, lo, R, rfl, s2, hd2, hkeys, hval, lok, hlo⟩
      have hL : LetAt H2 d (List.range 2) lo := ⟨kvs, hd2, hkeys, fun l hl => hval l (List.mem_range.mp hl)⟩
      have s2A := sB.trans s2
      refine ⟨_, rfl, Nat.le_of_ble_eq_true rfl, fun mk hmk => ?_⟩
      intro lp ld hlp hld nld
      have sM := same_make (o := .own lp) (u := .ins (He.ga K "Lot") ld []) hlp hld nld
      refine ⟨lp, mk, ld, "more", [t], rfl, upd_same, sM _ _ upd_same, ⟨.inr (.inr (.inr rfl)), by simp, fun m hm => by rw [List.mem_singleton.mp hm]; omega, ⟨fun _ => rfl, fun _ => by simp⟩⟩, by simp, fun H3 ns sx3 hL3 ok3 sub3 => ⟨rfl, ?_⟩⟩
      have s3 := s2A.trans ((same_upd hmk).trans (sameX_make hlp hld nld sx3))
      have s23 := (same_upd hmk).trans (sameX_make hlp hld nld sx3)
      refine ⟨_, rfl, _, rfl, ?_⟩
      intro hp2 hdx hhp hhd nhd
      have sN := same_make (o := .own hp2) (u := .ins (He.ga K "House") hdx []) hhp hhd nhd
      have lawk : LawOk "more" ns (gJ n) (List.range 2) lo := great_law n1 nt (fun m hm => List.mem_singleton.mp (sub3 m hm)) hlo
      have tG3 := (tG.same s2).same s23
      refine ⟨hp2, lp, ja, d, hdx, "more", ns, gJ n, List.range 2, lo, rfl, upd_same, hL3.same sN, ok3, tG3.same sN, M, by rw [gl]; exact n2, (hL.same s23).same sN, by rw [gl]; exact lok, by decide, lawk, fun H4 sx4 hH4 => ⟨rfl, ?_⟩⟩
      have s34 := sameX_make hhp hhd nhd sx4
      have s4 := s3.trans s34
      have tG4 := tG3.same s34
      have hL4 := (hL.same s23).same s34
      have hOk : HsOk (gJ n) lo := ⟨M, by rw [gl]; exact n2, lok.asc, by rw [gl]; exact lok.lt⟩
      refine ⟨2, rfl, by decide, by decide, ?_⟩
      refine for_range (lo := 0) (n := 2) (fun i σ H5 => ∃ v5 v6 v8 v9 v10 v11 v12, σ = [some (.ref pd), some (nV n), some (nV t), some (.ref ja), some (.ref d), v5, v6, some (.ref hp2), v8, v9, v10, v11, v12] ∧ Same H4 H5) ⟨_, _, _, _, _, _, _, rfl, Same.refl _⟩ ?_ ?_
      · rintro i σ H5 hi ⟨v5, v6, v8, v9, v10, v11, v12, rfl, s5⟩
        refine ⟨_, rfl, pd, 5, 2, rfl, (hp.same s4).same s5, by decide, by decide, by decide, by decide, fun H6 v k s6 hk ksz klt => ?_⟩
        have s46 := s5.trans s6
        refine ⟨_, rfl, _, rfl, hp2, lp, gJ n, lo, k, v, rfl, hH4.same s46, hOk, hk, Kd.lets_le (by decide) klt, Nat.le_trans ksz (by decide), calm_small (Nat.le_trans ksz (by decide)), fun H7 p7 s7 hp7 => ?_⟩
        refine ⟨p7, _, rfl, .inr (SqT.of hp7), fun q8 hq8 => ?_⟩
        have t8 := same_upd (o := .lst ((stN (gJ n) lo k).map nV)) hq8
        have s48 := s46.trans (s7.trans t8)
        refine ⟨_, rfl, _, rfl, _, rfl, ja, d, gJ n, List.range 2, lo, k, v, rfl, tG4.same s48, M, by rw [gl]; exact n2, hL4.same s48, by rw [gl]; exact lok, (hk.same (s7.trans t8)), by have := Kd.depth_lt k; omega, fun H9 p9 s9 hp9 => ?_⟩
        refine rNeL (SqL.of (s9 _ _ upd_same)) (SqL.of hp9) ?_
        exact ⟨false, by simp, iteF ⟨_, _, _, _, _, _, _, rfl, s48.trans s9⟩⟩
      · rintro σ H5 ⟨v5, v6, v8, v9, v10, v11, v12, rfl, s5⟩
        exact q H5 (s4.trans s5)
end
end UC
set_option Elab.async false
set_option linter.all false
set_option maxRecDepth 100000
/-! Hashes of chains, many lanes in one number. -/
namespace UC
namespace HS
def p1 : Nat := 11400714785074694791
def p2 : Nat := 14029467366897019727
def p5 : Nat := 2870177450012600261
def cc : Nat := 2870177450013471924
/-- one in each of n lanes of 128 ones -/
def ones (n : Nat) : Nat := (2 ^ (128 * n) - 1) / (2 ^ 128 - 1)
/-- what a run needs: masks and constants in all lanes -/
structure Cs where
  one : Nat
  lo : Nat
  hi : Nat
  m64 : Nat
  b64 : Nat
  l8 : Nat
/-- turn by 31 places, in each lane -/
def rotV (lo hi y : Nat) : Nat := Nat.add (Nat.shiftLeft (Nat.land y lo) 31) (Nat.shiftRight (Nat.land y hi) 33)
def c1 (a : Nat) : Nat := let y := (p5 + a * p2) % 2 ^ 64; (((y * 2 ^ 31) % 2 ^ 64 + y / 2 ^ 33) * p1) % 2 ^ 64
/-- map m (0..3: a letter ahead, 4..7: a letter behind) -/
def mapV (one lo hi m64 m x : Nat) : Nat :=
  bif Nat.ble m 3 then Nat.land (Nat.add (Nat.mul (rotV lo hi (Nat.add (Nat.mul x p2) (Nat.mul one (c1 m)))) p1) (Nat.mul one cc)) m64
  else Nat.land (Nat.add (Nat.mul (rotV lo hi (Nat.add (Nat.mul (rotV lo hi (Nat.add (Nat.mul x p2) (Nat.mul one p5))) p1) (Nat.mul one (Nat.mul (Nat.sub m 4) p2)))) p1) (Nat.mul one cc)) m64
/-- no lane is alike -/
def neV (m64 b64 y a : Nat) : Bool := Nat.beq (Nat.land (Nat.add (Nat.xor y a) m64) b64) b64
def neAll (m64 b64 y : Nat) : List Nat → Bool
  | [] => true
  | a :: as => bif neV m64 b64 y a then neAll m64 b64 y as else false
/-- no lane is 0, 1, 2, 3 or the greatest -/
def okV (one l8 m64 b64 y : Nat) : Bool := Nat.beq (Nat.land (Nat.add (Nat.land (Nat.add y one) l8) m64) b64) b64
def all8 (f : Nat → Bool) : Bool := bif f 0 then bif f 1 then bif f 2 then bif f 3 then bif f 4 then bif f 5 then bif f 6 then f 7 else false else false else false else false else false else false else false
/-- d more steps; the chains' last values first -/
def go (one lo hi m64 b64 l8 : Nat) : Nat → List Nat → Bool
  | 0, as => neAll m64 b64 (as.headD 0) as.tail
  | d + 1, as => all8 fun m => (fun y => bif okV one l8 m64 b64 y then go one lo hi m64 b64 l8 d (y :: as) else false) (mapV one lo hi m64 m (as.headD 0))
/-- the first steps: all eight, side by side -/
def cat8 (n : Nat) (f : Nat → Nat) : Nat := f 0 + 2 ^ (128 * n) * (f 1 + 2 ^ (128 * n) * (f 2 + 2 ^ (128 * n) * (f 3 + 2 ^ (128 * n) * (f 4 + 2 ^ (128 * n) * (f 5 + 2 ^ (128 * n) * (f 6 + 2 ^ (128 * n) * f 7))))))
def rep8 (n : Nat) : Nat := cat8 n fun _ => 1
def widen (n : Nat) (as : List Nat) : List Nat :=
  cat8 n (fun m => mapV (ones n) (ones n * (2 ^ 33 - 1)) (ones n * (2 ^ 64 - 2 ^ 33)) (ones n * (2 ^ 64 - 1)) m (as.headD 0)) :: as.map (fun a => a * rep8 n)
/-- pairs of letters -/
def x1 : Nat := (mapV (ones 4) (ones 4 * (2 ^ 33 - 1)) (ones 4 * (2 ^ 64 - 2 ^ 33)) (ones 4 * (2 ^ 64 - 1)) 0 (2 ^ 128 + 2 * 2 ^ 256 + 3 * 2 ^ 384)) +
  2 ^ 512 * ((mapV (ones 4) (ones 4 * (2 ^ 33 - 1)) (ones 4 * (2 ^ 64 - 2 ^ 33)) (ones 4 * (2 ^ 64 - 1)) 1 (2 ^ 128 + 2 * 2 ^ 256 + 3 * 2 ^ 384)) +
  2 ^ 512 * ((mapV (ones 4) (ones 4 * (2 ^ 33 - 1)) (ones 4 * (2 ^ 64 - 2 ^ 33)) (ones 4 * (2 ^ 64 - 1)) 2 (2 ^ 128 + 2 * 2 ^ 256 + 3 * 2 ^ 384)) +
  2 ^ 512 * (mapV (ones 4) (ones 4 * (2 ^ 33 - 1)) (ones 4 * (2 ^ 64 - 2 ^ 33)) (ones 4 * (2 ^ 64 - 1)) 3 (2 ^ 128 + 2 * 2 ^ 256 + 3 * 2 ^ 384))))
def st4 : List Nat := widen 1024 (widen 128 (widen 16 [x1]))
def goN (n d : Nat) (as : List Nat) : Bool :=
  (fun one => (fun lo hi m64 b64 l8 => go one lo hi m64 b64 l8 d as) (one * (2 ^ 33 - 1)) (one * (2 ^ 64 - 2 ^ 33)) (one * (2 ^ 64 - 1)) (one * 2 ^ 64) (one * (2 ^ 64 - 8))) (ones n)
/-- after the steps a, b, c -/
def stepN (n m : Nat) (as : List Nat) : List Nat := mapV (ones n) (ones n * (2 ^ 33 - 1)) (ones n * (2 ^ 64 - 2 ^ 33)) (ones n * (2 ^ 64 - 1)) m (as.headD 0) :: as
def okAll (one l8 m64 b64 : Nat) : List Nat → Bool
  | [] => true
  | a :: as => bif okV one l8 m64 b64 a then okAll one l8 m64 b64 as else false
def fin (n d : Nat) (as : List Nat) : Bool := bif okAll (ones n) (ones n * (2 ^ 64 - 8)) (ones n * (2 ^ 64 - 1)) (ones n * 2 ^ 64) as then goN n d as else false
def part (a b c : Nat) : Bool := fin 8192 2 (stepN 8192 c (stepN 8192 b (stepN 8192 a st4)))
end HS
end UC
set_option Elab.async false
set_option linter.all false
set_option maxRecDepth 4000
/-! Lanes of k ones in one number: sums, products, masks. -/
namespace UC
namespace HS
def pkk (k : Nat) : List Nat → Nat
  | [] => 0
  | x :: xs => x + 2 ^ k * pkk k xs
section
variable {α : Type} {k : Nat}
theorem pkk_add (f g : α → Nat) : ∀ S : List α, pkk k (S.map fun s => f s + g s) = pkk k (S.map f) + pkk k (S.map g)
  | [] => by simp [pkk]
  | s :: S => by
    show f s + g s + 2 ^ k * pkk k (S.map fun s => f s + g s) = f s + 2 ^ k * pkk k (S.map f) + (g s + 2 ^ k * pkk k (S.map g))
    rw [pkk_add f g S, Nat.mul_add]
    omega
theorem pkk_mul (f : α → Nat) (c : Nat) : ∀ S : List α, pkk k (S.map fun s => f s * c) = pkk k (S.map f) * c
  | [] => by simp [pkk]
  | s :: S => by
    show f s * c + 2 ^ k * pkk k (S.map fun s => f s * c) = (f s + 2 ^ k * pkk k (S.map f)) * c
    rw [pkk_mul f c S, Nat.add_mul, Nat.mul_assoc]
theorem pkk_one : ∀ S : List α, pkk k (S.map fun _ => 1) * (2 ^ k - 1) = 2 ^ (k * S.length) - 1
  | [] => by simp [pkk]
  | s :: S => by
    have ih := pkk_one S
    show (1 + 2 ^ k * pkk k (S.map fun _ => 1)) * (2 ^ k - 1) = 2 ^ (k * (S.length + 1)) - 1
    have e : 2 ^ (k * (S.length + 1)) = 2 ^ k * 2 ^ (k * S.length) := by rw [Nat.mul_add, Nat.mul_one, Nat.pow_add, Nat.mul_comm]
    have p := Nat.two_pow_pos (k * S.length)
    have p2 := Nat.two_pow_pos k
    have h2 : 2 ^ k * 1 ≤ 2 ^ k * 2 ^ (k * S.length) := Nat.mul_le_mul_left _ p
    rw [Nat.add_mul, Nat.one_mul, Nat.mul_assoc, ih, e, Nat.mul_sub, Nat.mul_one]
    rw [Nat.mul_one] at h2
    generalize 2 ^ k * 2 ^ (k * S.length) = X at h2 ⊢
    generalize 2 ^ k = Y at h2 p2 ⊢
    omega
/-- two numbers split at a place -/
theorem and_split (a b x y : Nat) (hx : x < 2 ^ k) (hy : y < 2 ^ k) : (x + 2 ^ k * a) &&& (y + 2 ^ k * b) = (x &&& y) + 2 ^ k * (a &&& b) := by
  refine Nat.eq_of_testBit_eq fun i => ?_
  have hxy : x &&& y < 2 ^ k := Nat.and_lt_two_pow x hy
  rw [Nat.testBit_and, Nat.add_comm x, Nat.add_comm y, Nat.add_comm (x &&& y), Nat.testBit_two_pow_mul_add _ hx, Nat.testBit_two_pow_mul_add _ hy, Nat.testBit_two_pow_mul_add _ hxy]
  split
  · rw [Nat.testBit_and]
  · rw [Nat.testBit_and]
theorem xor_split (a b x y : Nat) (hx : x < 2 ^ k) (hy : y < 2 ^ k) : (x + 2 ^ k * a) ^^^ (y + 2 ^ k * b) = (x ^^^ y) + 2 ^ k * (a ^^^ b) := by
  refine Nat.eq_of_testBit_eq fun i => ?_
  have hxy : x ^^^ y < 2 ^ k := Nat.xor_lt_two_pow hx hy
  rw [Nat.testBit_xor, Nat.add_comm x, Nat.add_comm y, Nat.add_comm (x ^^^ y), Nat.testBit_two_pow_mul_add _ hx, Nat.testBit_two_pow_mul_add _ hy, Nat.testBit_two_pow_mul_add _ hxy]
  split
  · rw [Nat.testBit_xor]
  · rw [Nat.testBit_xor]
theorem pkk_and (f g : α → Nat) : ∀ S : List α, (∀ s ∈ S, f s < 2 ^ k ∧ g s < 2 ^ k) → pkk k (S.map fun s => f s &&& g s) = pkk k (S.map f) &&& pkk k (S.map g)
  | [], _ => by simp [pkk]
  | s :: S, h => by
    show (f s &&& g s) + 2 ^ k * pkk k (S.map fun s => f s &&& g s) = (f s + 2 ^ k * pkk k (S.map f)) &&& (g s + 2 ^ k * pkk k (S.map g))
    rw [pkk_and f g S fun t ht => h t (List.mem_cons_of_mem _ ht), and_split _ _ _ _ (h s List.mem_cons_self).1 (h s List.mem_cons_self).2]
theorem pkk_xor (f g : α → Nat) : ∀ S : List α, (∀ s ∈ S, f s < 2 ^ k ∧ g s < 2 ^ k) → pkk k (S.map fun s => f s ^^^ g s) = pkk k (S.map f) ^^^ pkk k (S.map g)
  | [], _ => by simp [pkk]
  | s :: S, h => by
    show (f s ^^^ g s) + 2 ^ k * pkk k (S.map fun s => f s ^^^ g s) = (f s + 2 ^ k * pkk k (S.map f)) ^^^ (g s + 2 ^ k * pkk k (S.map g))
    rw [pkk_xor f g S fun t ht => h t (List.mem_cons_of_mem _ ht), xor_split _ _ _ _ (h s List.mem_cons_self).1 (h s List.mem_cons_self).2]
theorem pkk_inj (f g : α → Nat) : ∀ S : List α, (∀ s ∈ S, f s < 2 ^ k ∧ g s < 2 ^ k) → pkk k (S.map f) = pkk k (S.map g) → ∀ s ∈ S, f s = g s
  | [], _, _, s, hs => by cases hs
  | t :: S, h, e, s, hs => by
    have e : f t + 2 ^ k * pkk k (S.map f) = g t + 2 ^ k * pkk k (S.map g) := e
    have h1 := (h t List.mem_cons_self).1
    have h2 := (h t List.mem_cons_self).2
    have e1 : f t = g t := by
      have := congrArg (· % 2 ^ k) e
      simpa [Nat.add_mul_mod_self_left, Nat.mod_eq_of_lt h1, Nat.mod_eq_of_lt h2] using this
    rcases List.mem_cons.mp hs with rfl | hs
    · exact e1
    · rw [e1] at e
      exact pkk_inj f g S (fun u hu => h u (List.mem_cons_of_mem _ hu)) (Nat.eq_of_mul_eq_mul_left (Nat.two_pow_pos k) (Nat.add_left_cancel e)) s hs
theorem pkk_congr {f g : α → Nat} {S : List α} (h : ∀ s ∈ S, f s = g s) : pkk k (S.map f) = pkk k (S.map g) := by rw [List.map_congr_left h]
theorem pkk_app (xs ys : List Nat) : pkk k (xs ++ ys) = pkk k xs + 2 ^ (k * xs.length) * pkk k ys := by
  induction xs with
  | nil => simp [pkk]
  | cons x xs ih =>
    show x + 2 ^ k * pkk k (xs ++ ys) = x + 2 ^ k * pkk k xs + 2 ^ (k * (xs.length + 1)) * pkk k ys
    have e : 2 ^ (k * (xs.length + 1)) = 2 ^ k * 2 ^ (k * xs.length) := by rw [Nat.mul_add, Nat.mul_one, Nat.pow_add, Nat.mul_comm]
    rw [ih, e, Nat.mul_add, Nat.mul_assoc, Nat.add_assoc]
end
end HS
end UC
set_option Elab.async false
set_option linter.all false
set_option maxRecDepth 4000
/-! What the packed operations do to each lane. -/
namespace UC
namespace HS
section
variable {α : Type}
abbrev pk : List Nat → Nat := pkk 128
theorem pk_ones (S : List α) : pk (S.map fun _ => 1) = ones S.length := by
  unfold ones
  rw [← pkk_one S, Nat.mul_div_cancel _ (by decide)]
theorem pk_const (c : Nat) (S : List α) : pk (S.map fun _ => c) = ones S.length * c := by
  rw [← pk_ones, ← pkk_mul]
  simp
/-- the turn, one lane -/
def rt (y : Nat) : Nat := (y % 2 ^ 33) * 2 ^ 31 + (y / 2 ^ 33) % 2 ^ 31
theorem rt_lt (y : Nat) : rt y < 2 ^ 64 := by
  have h1 : y % 2 ^ 33 < 2 ^ 33 := Nat.mod_lt _ (by decide)
  have h2 : (y / 2 ^ 33) % 2 ^ 31 < 2 ^ 31 := Nat.mod_lt _ (by decide)
  unfold rt
  omega
theorem and_hi (y : Nat) : y &&& (2 ^ 64 - 2 ^ 33) = ((y / 2 ^ 33) % 2 ^ 31) * 2 ^ 33 := by
  have e : y % 2 ^ 33 + 2 ^ 33 * (y / 2 ^ 33) = y := Nat.mod_add_div y (2 ^ 33)
  have e2 : 0 + 2 ^ 33 * (2 ^ 31 - 1) = (2 ^ 64 - 2 ^ 33 : Nat) := by decide
  have h := and_split (k := 33) (y / 2 ^ 33) (2 ^ 31 - 1) (y % 2 ^ 33) 0 (Nat.mod_lt _ (by decide)) (by decide)
  rw [e, e2, Nat.and_zero, Nat.zero_add, Nat.and_two_pow_sub_one_eq_mod, Nat.mul_comm] at h
  exact h
theorem rotV_pk (f : α → Nat) (S : List α) (h : ∀ s ∈ S, f s < 2 ^ 128) : rotV (ones S.length * (2 ^ 33 - 1)) (ones S.length * (2 ^ 64 - 2 ^ 33)) (pk (S.map f)) = pk (S.map fun s => rt (f s)) := by
  have a1 : pk (S.map f) &&& (ones S.length * (2 ^ 33 - 1)) = pk (S.map fun s => f s % 2 ^ 33) := by
    rw [← pk_const, ← pkk_and f (fun _ => 2 ^ 33 - 1) S fun s hs => ⟨h s hs, by decide⟩]
    exact pkk_congr fun s _ => Nat.and_two_pow_sub_one_eq_mod _ _
  have a2 : pk (S.map f) &&& (ones S.length * (2 ^ 64 - 2 ^ 33)) = pk (S.map fun s => (f s / 2 ^ 33) % 2 ^ 31) * 2 ^ 33 := by
    rw [← pk_const, ← pkk_mul, ← pkk_and f (fun _ => 2 ^ 64 - 2 ^ 33) S fun s hs => ⟨h s hs, by decide⟩]
    exact pkk_congr fun s _ => and_hi _
  show (pk (S.map f) &&& (ones S.length * (2 ^ 33 - 1))) <<< 31 + (pk (S.map f) &&& (ones S.length * (2 ^ 64 - 2 ^ 33))) >>> 33 = _
  rw [a1, a2, Nat.shiftLeft_eq, Nat.shiftRight_eq_div_pow, Nat.mul_div_cancel _ (by decide), ← pkk_mul, ← pkk_add]
  rfl
end
end HS
end UC
set_option Elab.async false
set_option linter.all false
set_option maxRecDepth 4000
/-! One step in all lanes; lanes compared. -/
namespace UC
namespace HS
section
variable {α : Type}
theorem lane_lt {x p c d : Nat} (h : x < 2 ^ 64) (hc : c ≤ d) (hp : (2 ^ 64 - 1) * p + d < 2 ^ 128) : x * p + c < 2 ^ 128 :=
  Nat.lt_of_le_of_lt (Nat.add_le_add (Nat.mul_le_mul_right p (Nat.le_sub_one_of_lt h)) hc) hp
/-- one step of a chain -/
def stp (m x : Nat) : Nat := if m ≤ 3 then (rt (x * p2 + c1 m) * p1 + cc) % 2 ^ 64 else (rt (rt (x * p2 + p5) * p1 + (m - 4) * p2) * p1 + cc) % 2 ^ 64
theorem stp_lt (m x : Nat) : stp m x < 2 ^ 64 := by
  unfold stp
  split <;> exact Nat.mod_lt _ (by decide)
theorem c1_lt (m : Nat) : c1 m ≤ 2 ^ 64 := Nat.le_of_lt (Nat.mod_lt _ (by decide))
theorem lin_pk (g : α → Nat) (S : List α) (a c : Nat) : Nat.add (Nat.mul (pk (S.map g)) a) (Nat.mul (ones S.length) c) = pk (S.map fun s => g s * a + c) := by
  show pk (S.map g) * a + ones S.length * c = _
  have e1 : pk (S.map fun s => g s * a + c) = pk (S.map fun s => g s * a) + pk (S.map fun _ => c) := pkk_add _ _ S
  have e2 : pk (S.map fun s => g s * a) = pk (S.map g) * a := pkk_mul g a S
  rw [e1, e2, pk_const]
theorem last_pk (g : α → Nat) (S : List α) (hg : ∀ s ∈ S, g s < 2 ^ 64) : Nat.land (Nat.add (Nat.mul (pk (S.map g)) p1) (Nat.mul (ones S.length) cc)) (ones S.length * (2 ^ 64 - 1)) = pk (S.map fun s => (g s * p1 + cc) % 2 ^ 64) := by
  rw [lin_pk]
  show pk (S.map fun s => g s * p1 + cc) &&& _ = _
  rw [← pk_const, ← pkk_and _ (fun _ => 2 ^ 64 - 1) S fun s hs => ⟨lane_lt (hg s hs) (Nat.le_refl cc) (by decide), by decide⟩]
  exact pkk_congr fun s _ => Nat.and_two_pow_sub_one_eq_mod _ _
theorem mapV_pk (f : α → Nat) (S : List α) (m : Nat) (hm : m < 8) (h : ∀ s ∈ S, f s < 2 ^ 64) :
    mapV (ones S.length) (ones S.length * (2 ^ 33 - 1)) (ones S.length * (2 ^ 64 - 2 ^ 33)) (ones S.length * (2 ^ 64 - 1)) m (pk (S.map f)) = pk (S.map fun s => stp m (f s)) := by
  unfold mapV stp
  by_cases hm3 : m ≤ 3
  · have e : Nat.ble m 3 = true := Nat.ble_eq_true_of_le hm3
    rw [e, cond_true, lin_pk, rotV_pk _ _ fun s hs => lane_lt (h s hs) (c1_lt m) (by decide), last_pk _ _ fun s _ => rt_lt _]
    exact pkk_congr fun s _ => (if_pos hm3).symm
  · have e : Nat.ble m 3 = false := by
      rw [Bool.eq_false_iff]
      exact fun z => hm3 (Nat.le_of_ble_eq_true z)
    have h4 : (m - 4) * p2 ≤ 3 * p2 := Nat.mul_le_mul_right p2 (by omega)
    rw [e, cond_false, lin_pk, rotV_pk _ _ fun s hs => lane_lt (h s hs) (Nat.le_refl p5) (by decide), lin_pk, rotV_pk (fun s => rt (f s * p2 + p5) * p1 + Nat.mul (Nat.sub m 4) p2) S fun s hs => lane_lt (d := 3 * p2) (rt_lt _) h4 (by decide), last_pk _ _ fun s _ => rt_lt _]
    exact pkk_congr fun s _ => (if_neg hm3).symm
/-- lanes that pass the test are not zero -/
theorem nz_pk (f : α → Nat) (S : List α) (h : ∀ s ∈ S, f s < 2 ^ 64) (e : Nat.beq (Nat.land (Nat.add (pk (S.map f)) (ones S.length * (2 ^ 64 - 1))) (ones S.length * 2 ^ 64)) (ones S.length * 2 ^ 64) = true) : ∀ s ∈ S, f s ≠ 0 := by
  have e := Nat.eq_of_beq_eq_true e
  have e : (pk (S.map f) + ones S.length * (2 ^ 64 - 1)) &&& (ones S.length * 2 ^ 64) = ones S.length * 2 ^ 64 := e
  have b : ∀ s ∈ S, f s + (2 ^ 64 - 1) < 2 ^ 128 := fun s hs => Nat.lt_of_lt_of_le (Nat.add_lt_add_right (h s hs) _) (by decide)
  rw [← pk_const (2 ^ 64 - 1), ← pk_const (2 ^ 64), ← pkk_add, ← pkk_and _ (fun _ => 2 ^ 64) S fun s hs => ⟨b s hs, by decide⟩] at e
  intro s hs z
  have := pkk_inj _ _ S (fun t ht => ⟨Nat.lt_of_le_of_lt Nat.and_le_left (b t ht), by decide⟩) e s hs
  rw [z] at this
  exact absurd this (by decide)
theorem neV_pk (f g : α → Nat) (S : List α) (hf : ∀ s ∈ S, f s < 2 ^ 64) (hg : ∀ s ∈ S, g s < 2 ^ 64) (e : neV (ones S.length * (2 ^ 64 - 1)) (ones S.length * 2 ^ 64) (pk (S.map f)) (pk (S.map g)) = true) : ∀ s ∈ S, f s ≠ g s := by
  intro s hs z
  have up : ∀ {x : Nat}, x < 2 ^ 64 → x < 2 ^ 128 := fun h => Nat.lt_of_lt_of_le h (by decide)
  have e2 : pk (S.map f) ^^^ pk (S.map g) = pk (S.map fun s => f s ^^^ g s) := (pkk_xor f g S fun t ht => ⟨up (hf t ht), up (hg t ht)⟩).symm
  have := nz_pk (fun s => f s ^^^ g s) S (fun t ht => Nat.xor_lt_two_pow (hf t ht) (hg t ht)) (by rw [← e2]; exact e) s hs
  exact this (by rw [z, Nat.xor_self])
theorem okV_pk (f : α → Nat) (S : List α) (hf : ∀ s ∈ S, f s < 2 ^ 64) (e : okV (ones S.length) (ones S.length * (2 ^ 64 - 8)) (ones S.length * (2 ^ 64 - 1)) (ones S.length * 2 ^ 64) (pk (S.map f)) = true) : ∀ s ∈ S, 4 ≤ f s ∧ f s ≠ 2 ^ 64 - 1 := by
  have b1 : ∀ s ∈ S, f s + 1 < 2 ^ 128 := fun s hs => Nat.lt_of_lt_of_le (Nat.add_lt_add_right (hf s hs) 1) (by decide)
  have e2 : (pk (S.map f) + ones S.length) &&& (ones S.length * (2 ^ 64 - 8)) = pk (S.map fun s => (f s + 1) &&& (2 ^ 64 - 8)) := by
    rw [← pk_const, ← pk_ones, ← pkk_add, ← pkk_and _ (fun _ => 2 ^ 64 - 8) S fun s hs => ⟨b1 s hs, by decide⟩]
  have h := nz_pk (fun s => (f s + 1) &&& (2 ^ 64 - 8)) S (fun s hs => Nat.and_lt_two_pow _ (by decide)) (by rw [← e2]; exact e)
  intro s hs
  refine ⟨?_, fun z => h s hs (by rw [z]; decide)⟩
  rcases Nat.lt_or_ge (f s) 4 with q | q
  · refine absurd ?_ (h s hs)
    rcases (show f s = 0 ∨ f s = 1 ∨ f s = 2 ∨ f s = 3 by omega) with z | z | z | z <;> (rw [z]; decide)
  · exact q
end
end HS
end UC
set_option Elab.async false
set_option linter.all false
set_option maxRecDepth 4000
/-! All chains that go on from the lanes. -/
namespace UC
namespace HS
/-- a chain so far, its last value first: d steps more never meet what was, nor a letter -/
def CH : Nat → List Nat → Prop
  | 0, s => ∀ a ∈ s.tail, s.headD 0 ≠ a
  | d + 1, s => ∀ m, m < 8 → (4 ≤ stp m (s.headD 0) ∧ stp m (s.headD 0) ≠ 2 ^ 64 - 1) ∧ CH d (stp m (s.headD 0) :: s)
theorem all8_of {f : Nat → Bool} (h : all8 f = true) : ∀ m, m < 8 → f m = true := by
  unfold all8 at h
  simp only [Bool.cond_eq_ite, Bool.ite_eq_true_distrib] at h
  intro m hm
  have q : f 0 = true ∧ f 1 = true ∧ f 2 = true ∧ f 3 = true ∧ f 4 = true ∧ f 5 = true ∧ f 6 = true ∧ f 7 = true := by
    cases h0 : f 0 <;> cases h1 : f 1 <;> cases h2 : f 2 <;> cases h3 : f 3 <;> cases h4 : f 4 <;> cases h5 : f 5 <;> cases h6 : f 6 <;> cases h7 : f 7 <;> simp_all
  obtain ⟨q0, q1, q2, q3, q4, q5, q6, q7⟩ := q
  rcases (show m = 0 ∨ m = 1 ∨ m = 2 ∨ m = 3 ∨ m = 4 ∨ m = 5 ∨ m = 6 ∨ m = 7 by omega) with rfl | rfl | rfl | rfl | rfl | rfl | rfl | rfl <;> assumption
section
variable {α : Type} (S : List α)
theorem neAll_ok (f : α → Nat) (hf : ∀ s ∈ S, f s < 2 ^ 64) : ∀ gs : List (α → Nat), (∀ g ∈ gs, ∀ s ∈ S, g s < 2 ^ 64) → neAll (ones S.length * (2 ^ 64 - 1)) (ones S.length * 2 ^ 64) (pk (S.map f)) (gs.map fun g => pk (S.map g)) = true → ∀ s ∈ S, ∀ a ∈ gs.map (fun g => g s), f s ≠ a
  | [], _, _, s, _, a, ha => by cases ha
  | g :: gs, hg, e, s, hs, a, ha => by
    have e : (bif neV (ones S.length * (2 ^ 64 - 1)) (ones S.length * 2 ^ 64) (pk (S.map f)) (pk (S.map g)) then neAll (ones S.length * (2 ^ 64 - 1)) (ones S.length * 2 ^ 64) (pk (S.map f)) (gs.map fun g => pk (S.map g)) else false) = true := e
    cases h1 : neV (ones S.length * (2 ^ 64 - 1)) (ones S.length * 2 ^ 64) (pk (S.map f)) (pk (S.map g)) with
    | false => rw [h1] at e; cases e
    | true =>
      rw [h1] at e
      rcases List.mem_cons.mp ha with rfl | ha
      · exact neV_pk f g S hf (hg g List.mem_cons_self) h1 s hs
      · exact neAll_ok f hf gs (fun k hk => hg k (List.mem_cons_of_mem _ hk)) e s hs a ha
theorem go_ok : ∀ (d : Nat) (f : α → Nat) (gs : List (α → Nat)), (∀ g ∈ f :: gs, ∀ s ∈ S, g s < 2 ^ 64) →
    go (ones S.length) (ones S.length * (2 ^ 33 - 1)) (ones S.length * (2 ^ 64 - 2 ^ 33)) (ones S.length * (2 ^ 64 - 1)) (ones S.length * 2 ^ 64) (ones S.length * (2 ^ 64 - 8)) d ((f :: gs).map fun g => pk (S.map g)) = true → ∀ s ∈ S, CH d ((f :: gs).map fun g => g s)
  | 0, f, gs, h, e, s, hs => neAll_ok S f (h f List.mem_cons_self) gs (fun g hg => h g (List.mem_cons_of_mem _ hg)) e s hs
  | d + 1, f, gs, h, e, s, hs => fun m hm => by
    have e1 := all8_of e m hm
    have e2 : mapV (ones S.length) (ones S.length * (2 ^ 33 - 1)) (ones S.length * (2 ^ 64 - 2 ^ 33)) (ones S.length * (2 ^ 64 - 1)) m (pk (S.map f)) = pk (S.map fun s => stp m (f s)) := mapV_pk f S m hm (h f List.mem_cons_self)
    have e1 : (bif okV (ones S.length) (ones S.length * (2 ^ 64 - 8)) (ones S.length * (2 ^ 64 - 1)) (ones S.length * 2 ^ 64) (mapV (ones S.length) (ones S.length * (2 ^ 33 - 1)) (ones S.length * (2 ^ 64 - 2 ^ 33)) (ones S.length * (2 ^ 64 - 1)) m (pk (S.map f))) then
      go (ones S.length) (ones S.length * (2 ^ 33 - 1)) (ones S.length * (2 ^ 64 - 2 ^ 33)) (ones S.length * (2 ^ 64 - 1)) (ones S.length * 2 ^ 64) (ones S.length * (2 ^ 64 - 8)) d (mapV (ones S.length) (ones S.length * (2 ^ 33 - 1)) (ones S.length * (2 ^ 64 - 2 ^ 33)) (ones S.length * (2 ^ 64 - 1)) m (pk (S.map f)) :: (f :: gs).map fun g => pk (S.map g)) else false) = true := e1
    rw [e2] at e1
    have lt : ∀ s ∈ S, stp m (f s) < 2 ^ 64 := fun s _ => stp_lt m _
    cases h1 : okV (ones S.length) (ones S.length * (2 ^ 64 - 8)) (ones S.length * (2 ^ 64 - 1)) (ones S.length * 2 ^ 64) (pk (S.map fun s => stp m (f s))) with
    | false => rw [h1] at e1; cases e1
    | true =>
      rw [h1] at e1
      refine ⟨okV_pk (fun s => stp m (f s)) S lt h1 s hs, go_ok d (fun s => stp m (f s)) (f :: gs) (fun g hg => ?_) e1 s hs⟩
      rcases List.mem_cons.mp hg with rfl | hg
      · exact lt
      · exact h g hg
end
end HS
end UC
set_option Elab.async false
set_option linter.all false
set_option maxRecDepth 4000
/-! Eight times as many lanes: all steps side by side. -/
namespace UC
namespace HS
section
variable {α : Type}
/-- each of the lanes with each of the steps -/
def wide (S : List α) : List (Nat × α) := (List.range 8).flatMap fun m => S.map fun s => (m, s)
theorem wide_eq (S : List α) : wide S = S.map (fun s => (0, s)) ++ (S.map (fun s => (1, s)) ++ (S.map (fun s => (2, s)) ++ (S.map (fun s => (3, s)) ++ (S.map (fun s => (4, s)) ++ (S.map (fun s => (5, s)) ++ (S.map (fun s => (6, s)) ++ S.map (fun s => (7, s)))))))) := by
  show _ ++ (_ ++ (_ ++ (_ ++ (_ ++ (_ ++ (_ ++ (_ ++ [])))))))  = _
  rw [List.append_nil]
theorem wide_len (S : List α) : (wide S).length = 8 * S.length := by
  rw [wide_eq]
  simp only [List.length_append, List.length_map]
  omega
theorem wide_mem {S : List α} {m : Nat} {s : α} (hm : m < 8) (hs : s ∈ S) : (m, s) ∈ wide S :=
  List.mem_flatMap.mpr ⟨m, List.mem_range.mpr hm, List.mem_map.mpr ⟨s, hs, rfl⟩⟩
theorem wide_of {S : List α} {p : Nat × α} (h : p ∈ wide S) : p.1 < 8 ∧ p.2 ∈ S := by
  obtain ⟨m, hm, h⟩ := List.mem_flatMap.mp h
  obtain ⟨s, hs, rfl⟩ := List.mem_map.mp h
  exact ⟨List.mem_range.mp hm, hs⟩
theorem wide_pk (F : Nat × α → Nat) (S : List α) : pk ((wide S).map F) = cat8 S.length fun m => pk (S.map fun s => F (m, s)) := by
  rw [wide_eq]
  simp only [List.map_append, List.map_map, pkk_app, List.length_map]
  rfl
theorem cat8_mul (n c : Nat) : (cat8 n fun _ => c) = c * rep8 n := by
  unfold rep8 cat8
  generalize 2 ^ (128 * n) = B
  simp only [Nat.mul_add, Nat.mul_one, Nat.mul_left_comm c B, Nat.mul_comm c B]
theorem widen_pk (S : List α) (f : α → Nat) (gs : List (α → Nat)) (h : ∀ s ∈ S, f s < 2 ^ 64) :
    widen S.length ((f :: gs).map fun g => pk (S.map g)) = ((fun p : Nat × α => stp p.1 (f p.2)) :: ((f :: gs).map fun g => fun p : Nat × α => g p.2)).map fun g => pk ((wide S).map g) := by
  unfold widen
  rw [List.map_cons]
  refine congr (congrArg List.cons ?_) ?_
  · show cat8 S.length (fun m => mapV _ _ _ _ m (pk (S.map f))) = pk ((wide S).map fun p => stp p.1 (f p.2))
    rw [wide_pk]
    unfold cat8
    simp only [mapV_pk f S _ (by decide : (0 : Nat) < 8) h, mapV_pk f S _ (by decide : (1 : Nat) < 8) h, mapV_pk f S _ (by decide : (2 : Nat) < 8) h, mapV_pk f S _ (by decide : (3 : Nat) < 8) h, mapV_pk f S _ (by decide : (4 : Nat) < 8) h, mapV_pk f S _ (by decide : (5 : Nat) < 8) h, mapV_pk f S _ (by decide : (6 : Nat) < 8) h, mapV_pk f S _ (by decide : (7 : Nat) < 8) h]
  · show ((f :: gs).map fun g => pk (S.map g)).map (fun a => a * rep8 S.length) = _
    rw [List.map_map, List.map_map]
    refine List.map_congr_left fun g _ => ?_
    show pk (S.map g) * rep8 S.length = pk ((wide S).map fun p => g p.2)
    rw [wide_pk, ← cat8_mul]
end
end HS
end UC
set_option Elab.async false
set_option linter.all false
set_option maxRecDepth 4000
/-! The first lanes: pairs of letters. -/
namespace UC
namespace HS
def S1 : List (Nat × Nat) := (List.range 4).flatMap fun m => (List.range 4).map fun a => (m, a)
def f1 (p : Nat × Nat) : Nat := stp p.1 p.2
theorem S1_eq : S1 = (List.range 4).map (fun a => (0, a)) ++ ((List.range 4).map (fun a => (1, a)) ++ ((List.range 4).map (fun a => (2, a)) ++ (List.range 4).map (fun a => (3, a)))) := rfl
theorem four_pk : pk ((List.range 4).map fun a => a) = 2 ^ 128 + 2 * 2 ^ 256 + 3 * 2 ^ 384 := by decide +kernel
theorem x1_pk : x1 = pk (S1.map f1) := by
  have h : ∀ m, m < 8 → mapV (ones 4) (ones 4 * (2 ^ 33 - 1)) (ones 4 * (2 ^ 64 - 2 ^ 33)) (ones 4 * (2 ^ 64 - 1)) m (2 ^ 128 + 2 * 2 ^ 256 + 3 * 2 ^ 384) = pk ((List.range 4).map fun a => stp m a) := fun m hm => by
    rw [← four_pk]
    exact mapV_pk (fun a => a) (List.range 4) m hm fun s hs => Nat.lt_trans (List.mem_range.mp hs) (by decide)
  rw [S1_eq]
  simp only [List.map_append, List.map_map, pkk_app, List.length_map, List.length_range]
  unfold x1
  rw [h 0 (by decide), h 1 (by decide), h 2 (by decide), h 3 (by decide)]
  rfl
end HS
end UC
set_option Elab.async false
set_option linter.all false
set_option maxRecDepth 4000
/-! One part: all chains that begin so. -/
namespace UC
namespace HS
/-- values that are no letter, nor the greatest -/
def okN (x : Nat) : Prop := 4 ≤ x ∧ x ≠ 2 ^ 64 - 1
section
variable {α : Type} (S : List α)
theorem okAll_ok : ∀ gs : List (α → Nat), (∀ g ∈ gs, ∀ s ∈ S, g s < 2 ^ 64) → okAll (ones S.length) (ones S.length * (2 ^ 64 - 8)) (ones S.length * (2 ^ 64 - 1)) (ones S.length * 2 ^ 64) (gs.map fun g => pk (S.map g)) = true → ∀ s ∈ S, ∀ g ∈ gs, okN (g s)
  | [], _, _, _, _, g, hg => by cases hg
  | k :: gs, h, e, s, hs, g, hg => by
    have e : (bif okV (ones S.length) (ones S.length * (2 ^ 64 - 8)) (ones S.length * (2 ^ 64 - 1)) (ones S.length * 2 ^ 64) (pk (S.map k)) then okAll (ones S.length) (ones S.length * (2 ^ 64 - 8)) (ones S.length * (2 ^ 64 - 1)) (ones S.length * 2 ^ 64) (gs.map fun g => pk (S.map g)) else false) = true := e
    cases h1 : okV (ones S.length) (ones S.length * (2 ^ 64 - 8)) (ones S.length * (2 ^ 64 - 1)) (ones S.length * 2 ^ 64) (pk (S.map k)) with
    | false => rw [h1] at e; cases e
    | true =>
      rw [h1] at e
      rcases List.mem_cons.mp hg with rfl | hg
      · exact okV_pk g S (h g List.mem_cons_self) h1 s hs
      · exact okAll_ok gs (fun g hg => h g (List.mem_cons_of_mem _ hg)) e s hs g hg
theorem step_pk (f : α → Nat) (gs : List (α → Nat)) (m : Nat) (hm : m < 8) (h : ∀ s ∈ S, f s < 2 ^ 64) : stepN S.length m ((f :: gs).map fun g => pk (S.map g)) = ((fun s => stp m (f s)) :: f :: gs).map fun g => pk (S.map g) := by
  show mapV _ _ _ _ m (pk (S.map f)) :: _ = _
  rw [mapV_pk f S m hm h]
  rfl
theorem fin_ok (d : Nat) (f : α → Nat) (gs : List (α → Nat)) (h : ∀ g ∈ f :: gs, ∀ s ∈ S, g s < 2 ^ 64) (e : fin S.length d ((f :: gs).map fun g => pk (S.map g)) = true) : ∀ s ∈ S, (∀ g ∈ f :: gs, okN (g s)) ∧ CH d ((f :: gs).map fun g => g s) := by
  unfold fin at e
  cases h1 : okAll (ones S.length) (ones S.length * (2 ^ 64 - 8)) (ones S.length * (2 ^ 64 - 1)) (ones S.length * 2 ^ 64) ((f :: gs).map fun g => pk (S.map g)) with
  | false => rw [h1] at e; cases e
  | true =>
    rw [h1] at e
    exact fun s hs => ⟨okAll_ok S _ h h1 s hs, go_ok S d f gs h e s hs⟩
end
end HS
end UC
set_option Elab.async false
set_option linter.all false
set_option maxRecDepth 4000
/-! All chains of depth 9, by parts. -/
namespace UC
namespace HS
abbrev S2 := wide S1
abbrev S3 := wide S2
abbrev S4 := wide S3
theorem S1_len : S1.length = 16 := rfl
theorem S2_len : S2.length = 128 := by rw [wide_len, S1_len]
theorem S3_len : S3.length = 1024 := by rw [wide_len, S2_len]
theorem S4_len : S4.length = 8192 := by rw [wide_len, S3_len]
theorem st4_eq : st4 = ((fun p : Nat × Nat × Nat × Nat × Nat => stp p.1 (stp p.2.1 (stp p.2.2.1 (f1 p.2.2.2)))) :: [(fun p => stp p.2.1 (stp p.2.2.1 (f1 p.2.2.2))), (fun p => stp p.2.2.1 (f1 p.2.2.2)), (fun p => f1 p.2.2.2)]).map fun g => pk (S4.map g) := by
  have a1 := widen_pk S1 f1 [] fun s _ => stp_lt _ _
  have a2 := widen_pk S2 (fun p => stp p.1 (f1 p.2)) [fun p => f1 p.2] fun s _ => stp_lt _ _
  have a3 := widen_pk S3 (fun p => stp p.1 (stp p.2.1 (f1 p.2.2))) [fun p => stp p.2.1 (f1 p.2.2), fun p => f1 p.2.2] fun s _ => stp_lt _ _
  rw [S1_len] at a1
  rw [S2_len] at a2
  rw [S3_len] at a3
  unfold st4
  rw [x1_pk]
  refine Eq.trans (congrArg (fun z => widen 1024 (widen 128 z)) a1) ?_
  refine Eq.trans (congrArg (fun z => widen 1024 z) a2) ?_
  exact a3
end HS
end UC
namespace UC
namespace HS
theorem part_ok {a b c : Nat} (ha : a < 8) (hb : b < 8) (hc : c < 8) (e : part a b c = true) : ∀ p ∈ S4, (∀ x ∈ [stp c (stp b (stp a (stp p.1 (stp p.2.1 (stp p.2.2.1 (f1 p.2.2.2)))))), stp b (stp a (stp p.1 (stp p.2.1 (stp p.2.2.1 (f1 p.2.2.2))))), stp a (stp p.1 (stp p.2.1 (stp p.2.2.1 (f1 p.2.2.2)))), stp p.1 (stp p.2.1 (stp p.2.2.1 (f1 p.2.2.2))), stp p.2.1 (stp p.2.2.1 (f1 p.2.2.2)), stp p.2.2.1 (f1 p.2.2.2), f1 p.2.2.2], okN x) ∧
    CH 2 [stp c (stp b (stp a (stp p.1 (stp p.2.1 (stp p.2.2.1 (f1 p.2.2.2)))))), stp b (stp a (stp p.1 (stp p.2.1 (stp p.2.2.1 (f1 p.2.2.2))))), stp a (stp p.1 (stp p.2.1 (stp p.2.2.1 (f1 p.2.2.2)))), stp p.1 (stp p.2.1 (stp p.2.2.1 (f1 p.2.2.2))), stp p.2.1 (stp p.2.2.1 (f1 p.2.2.2)), stp p.2.2.1 (f1 p.2.2.2), f1 p.2.2.2] := by
  unfold part at e
  rw [st4_eq, ← S4_len, step_pk S4 _ _ a ha fun s _ => stp_lt _ _, step_pk S4 _ _ b hb fun s _ => stp_lt _ _, step_pk S4 _ _ c hc fun s _ => stp_lt _ _] at e
  intro p hp
  obtain ⟨h1, h2⟩ := fin_ok S4 2 _ _ (fun g hg s _ => by
    simp only [List.mem_cons, List.not_mem_nil, or_false] at hg
    rcases hg with rfl | rfl | rfl | rfl | rfl | rfl | rfl <;> exact stp_lt _ _) e p hp
  exact ⟨List.forall_mem_map.mpr h1, h2⟩
end HS
end UC
set_option Elab.async false
set_option linter.all false
set_option maxRecDepth 4000
/-! The hash of a pair, unsigned. -/
namespace UC
namespace HS
open PySem
theorem rt_eq (z : Nat) : rt z = ((z % 2 ^ 64) * 2 ^ 31) % 2 ^ 64 + (z % 2 ^ 64) / 2 ^ 33 := by
  unfold rt
  have e1 : ((z % 2 ^ 64) * 2 ^ 31) % 2 ^ 64 = (z % 2 ^ 33) * 2 ^ 31 := by
    have : (2 ^ 64 : Nat) = 2 ^ 33 * 2 ^ 31 := by decide
    rw [this, Nat.mul_mod_mul_right, Nat.mod_mul_right_mod]
  have e2 : (z % 2 ^ 64) / 2 ^ 33 = (z / 2 ^ 33) % 2 ^ 31 := by
    have : (2 ^ 64 : Nat) = 2 ^ 33 * 2 ^ 31 := by decide
    rw [this, Nat.mod_mul_right_div_self]
  rw [e1, e2]
theorem rt_mod (z : Nat) : rt (z % 2 ^ 64) = rt z := by rw [rt_eq, rt_eq, Nat.mod_mod]
theorem rt_congr {y z : Nat} (h : y % 2 ^ 64 = z % 2 ^ 64) : rt y = rt z := by rw [← rt_mod y, h, rt_mod]
/-- one value taken in -/
def acc (a x : Nat) : Nat := (rt (a + x * p2) * p1) % 2 ^ 64
def two (x y : Nat) : Nat := (acc (acc p5 x) y + cc) % 2 ^ 64
def adj (t : Nat) : Nat := if t = 2 ^ 64 - 1 then 1546275796 else t
def sg (t : Nat) : Int := if t < 2 ^ 63 then (t : Int) else (t : Int) - 2 ^ 64
def un (i : Int) : Nat := (i % ((2 ^ 64 : Nat) : Int)).toNat
theorem un_sg {t : Nat} (h : t < 2 ^ 64) : un (sg t) = t := by
  unfold un sg
  split <;> omega
theorem cc_eq : (2 ^^^ (2870177450012600261 ^^^ 3527539) : Nat) = cc := by decide
/-- one step of the model's hash of a tuple -/
def stF (a : Nat) (h : Int) : Nat :=
  let b := (a + (h % ((2 ^ 64 : Nat) : Int)).toNat * 14029467366897019727) % 2 ^ 64
  let c := (b * 2 ^ 31) % 2 ^ 64 + b / 2 ^ 33
  (c * 11400714785074694791) % 2 ^ 64
theorem stF_eq (a : Nat) (h : Int) : stF a h = acc a (un h) := by
  have e : stF a h = ((((a + un h * p2) % 2 ^ 64) * 2 ^ 31) % 2 ^ 64 + ((a + un h * p2) % 2 ^ 64) / 2 ^ 33) * p1 % 2 ^ 64 := rfl
  rw [e, ← rt_eq]
  rfl
/-- its end -/
def enF (n : Nat) (z : Nat) : Int := let b : Nat := (z + (n ^^^ (2870177450012600261 ^^^ 3527539))) % 2 ^ 64; if b == 2 ^ 64 - 1 then 1546275796 else if b < 2 ^ 63 then (b : Int) else (b : Int) - ((2 ^ 64 : Nat) : Int)
theorem tho_eq (hs : List Int) : Builtin.Tuple.tupleHashOf hs = enF hs.length (hs.foldl stF 2870177450012600261) := rfl
theorem fold2 (F : Nat → Int → Nat) (a : Nat) (x y : Int) : List.foldl F a [x, y] = F (F a x) y := rfl
theorem enF_eq (z : Nat) : enF 2 z = sg (adj ((z + cc) % 2 ^ 64)) := by
  unfold enF
  rw [cc_eq]
  generalize (z + cc) % 2 ^ 64 = t
  unfold sg adj
  by_cases h : t = 2 ^ 64 - 1
  · subst h
    decide
  · rw [if_neg h]
    simp only [beq_iff_eq, h, if_false]
    rfl
theorem two_lt (x y : Nat) : two x y < 2 ^ 64 := Nat.mod_lt _ (by decide)
theorem adj_lt {t : Nat} (h : t < 2 ^ 64) : adj t < 2 ^ 64 ∧ adj t ≠ 2 ^ 64 - 1 := by
  unfold adj
  split
  · exact ⟨by decide, by decide⟩
  · exact ⟨h, by assumption⟩
theorem hash_two (x y : Int) : Builtin.Tuple.tupleHashOf [x, y] = sg (adj (two (un x) (un y))) := by
  rw [tho_eq, fold2, stF_eq, stF_eq]
  exact enF_eq _
theorem reduce_sg {t : Nat} (h : t < 2 ^ 64) (h1 : t ≠ 2 ^ 64 - 1) : reduceHash (sg t) = sg t := by
  have a1 : -(2 ^ 63 : Int) ≤ sg t := by unfold sg; split <;> omega
  have a2 : sg t < 2 ^ 63 := by unfold sg; split <;> omega
  have a3 : sg t ≠ -1 := by unfold sg; split <;> omega
  unfold reduceHash
  rw [if_pos (by simp; exact ⟨a1, a2⟩), if_neg (by simpa using a3)]
/-- the hash of a kind, unsigned -/
def hu (w : World) (k : Kd) : Nat := un (k.key.hash w)
theorem un_lt (i : Int) : un i < 2 ^ 64 := by
  unfold un
  have := Int.emod_lt_of_pos i (show (0 : Int) < ((2 ^ 64 : Nat) : Int) by decide)
  have := Int.emod_nonneg i (show ((2 ^ 64 : Nat) : Int) ≠ 0 by decide)
  omega
theorem hu_ar (w : World) (a b : Kd) : hu w (.ar a b) = adj (two (hu w a) (hu w b)) := by
  have e : (Kd.ar a b).key.hash w = reduceHash (Builtin.Tuple.tupleHashOf [a.key.hash w, b.key.hash w]) := by
    show NestedKey.hash w (.tup [a.key, b.key]) = _
    simp only [NestedKey.hash, NestedKey.hashes]
  have l := adj_lt (two_lt (un (a.key.hash w)) (un (b.key.hash w)))
  unfold hu
  rw [e, hash_two, reduce_sg l.1 l.2, un_sg l.1]
theorem hu_lt (w : World) {n : Nat} (h : n < 4) : hu w (.lt n) = n := by
  have e : (Kd.lt n).key.hash w = hashInt (n : Int) := by
    show NestedKey.hash w (.num (n : Int)) = _
    simp only [NestedKey.hash]
  unfold hu
  rw [e]
  rcases (show n = 0 ∨ n = 1 ∨ n = 2 ∨ n = 3 by omega) with rfl | rfl | rfl | rfl <;> decide
end HS
end UC
set_option Elab.async false
set_option linter.all false
set_option maxRecDepth 4000
/-! Chains: kinds as deep as they can be. -/
namespace UC
namespace HS
open PySem
/-- a letter ahead of a kind, or behind it -/
def ap (m : Nat) (k : Kd) : Kd := if m ≤ 3 then .ar (.lt m) k else .ar k (.lt (m - 4))
theorem acc_p5 (a : Nat) : acc p5 a = c1 a := by
  unfold acc c1
  rw [rt_eq]
theorem acc_mod (a x y : Nat) (h : a % 2 ^ 64 = y % 2 ^ 64) : acc a x = (rt (x * p2 + y) * p1) % 2 ^ 64 := by
  unfold acc
  rw [rt_congr (y := a + x * p2) (z := x * p2 + y)]
  omega
theorem stp_two {m : Nat} (hm : m < 8) (x : Nat) : stp m x = if m ≤ 3 then two m x else two x (m - 4) := by
  unfold stp two
  split
  · rw [acc_p5, acc_mod (c1 m) x (c1 m) rfl, Nat.mod_add_mod]
  · have e : acc (acc p5 x) (m - 4) = (rt (rt (x * p2 + p5) * p1 + (m - 4) * p2) * p1) % 2 ^ 64 := by
      rw [acc_mod (acc p5 x) (m - 4) (rt (x * p2 + p5) * p1) ?_, Nat.add_comm ((m - 4) * p2)]
      rw [acc_mod p5 x p5 rfl, Nat.mod_mod]
    rw [e, Nat.mod_add_mod]
theorem hu_ap (w : World) {m : Nat} (hm : m < 8) (k : Kd) : hu w (ap m k) = adj (stp m (hu w k)) := by
  rw [stp_two hm]
  unfold ap
  split
  · rw [hu_ar, hu_lt w (by omega)]
  · rw [hu_ar, hu_lt w (by omega)]
theorem adj_ok {t : Nat} (h : okN t) : adj t = t := if_neg h.2
/-- a chain with its values, the last first -/
inductive Ch (w : World) : Kd → List Nat → Prop where
  | one {m a : Nat} (hm : m < 4) (ha : a < 4) (h : okN (stp m a)) : Ch w (ap m (.lt a)) [stp m a]
  | more {k : Kd} {x : Nat} {xs : List Nat} {m : Nat} (hm : m < 8) (h : okN (stp m x)) (c : Ch w k (x :: xs)) : Ch w (ap m k) (stp m x :: x :: xs)
theorem Ch.hu {w : World} {k : Kd} {x : Nat} {xs : List Nat} (c : Ch w k (x :: xs)) : hu w k = x := by
  generalize hy : x :: xs = ys at c
  induction c generalizing x xs with
  | @one m a hm ha h =>
    injection hy with e _
    rw [hu_ap w (by omega), hu_lt w ha, adj_ok h, e]
  | @more k z zs m hm h c ih =>
    injection hy with e _
    rw [hu_ap w hm, ih rfl, adj_ok h, e]
theorem ap_parts {m : Nat} (hm : m < 8) {k p : Kd} (h : p ∈ (ap m k).parts) : p = k ∨ p ∈ k.parts ∨ ∃ a, a < 4 ∧ p = .lt a := by
  unfold ap at h
  split at h
  · rcases List.mem_cons.mp h with e | h
    · exact .inr (.inr ⟨m, by omega, e⟩)
    rcases List.mem_cons.mp h with e | h
    · exact .inl e
    rcases List.mem_append.mp h with h | h
    · cases h
    · exact .inr (.inl h)
  · rcases List.mem_cons.mp h with e | h
    · exact .inl e
    rcases List.mem_cons.mp h with e | h
    · exact .inr (.inr ⟨m - 4, by omega, e⟩)
    rcases List.mem_append.mp h with h | h
    · exact .inr (.inl h)
    · cases h
theorem Ch.parts {w : World} {k : Kd} {xs : List Nat} (c : Ch w k xs) : ∀ p ∈ k.parts, HS.hu w p < 4 ∨ HS.hu w p ∈ xs.tail := by
  induction c with
  | @one m a hm ha h =>
    intro p hp
    rcases ap_parts (by omega) hp with e | hp | ⟨b, hb, e⟩
    · rw [e, hu_lt w ha]; exact .inl ha
    · cases hp
    · rw [e, hu_lt w hb]; exact .inl hb
  | @more k z zs m hm h c ih =>
    intro p hp
    rcases ap_parts hm hp with e | hp | ⟨b, hb, e⟩
    · rw [e, c.hu]; exact .inr List.mem_cons_self
    · rcases ih p hp with q | q
      · exact .inl q
      · exact .inr (List.mem_cons_of_mem _ q)
    · rw [e, hu_lt w hb]; exact .inl hb
/-- a chain none of whose values is the last -/
theorem Ch.calm {w : World} {k : Kd} {x : Nat} {xs : List Nat} (c : Ch w k (x :: xs)) (h : okN x) (n : ∀ y ∈ xs, x ≠ y) : ∀ p ∈ k.parts, p.key.hash w ≠ k.key.hash w := by
  intro p hp e
  have e2 : HS.hu w p = x := by
    rw [← c.hu]
    exact congrArg un e
  rcases c.parts p hp with q | q
  · have := h.1
    omega
  · exact n _ q e2.symm
/-- what is as deep as it can be is a chain -/
theorem deep_ap {n : Nat} {k : Kd} (hd : k.depth = n + 1) (hs : k.size = n + 2) (hl : k.lets 4) : ∃ m k', m < 8 ∧ k = ap m k' ∧ k'.depth = n ∧ k'.size = n + 1 ∧ k'.lets 4 := by
  cases k with
  | lt a => cases hd
  | ar a b =>
    have hd : max a.depth b.depth + 1 = n + 1 := hd
    have hs : a.size + b.size = n + 2 := hs
    have d1 := Kd.depth_lt a
    have d2 := Kd.depth_lt b
    by_cases q : a.size = 1
    · cases a with
      | lt m =>
        have hm : m < 4 := hl.1
        have z : (Kd.lt m).depth = 0 := rfl
        exact ⟨m, b, by omega, (if_pos (by omega)).symm, by omega, by omega, hl.2⟩
      | ar c d =>
        have h1 := Kd.size_pos c
        have h2 := Kd.size_pos d
        have q : c.size + d.size = 1 := q
        omega
    · cases b with
      | lt m =>
        have hm : m < 4 := hl.2
        have z : (Kd.lt m).depth = 0 := rfl
        have z2 : (Kd.lt m).size = 1 := rfl
        refine ⟨m + 4, a, by omega, ?_, by omega, by omega, hl.1⟩
        show _ = if m + 4 ≤ 3 then _ else Kd.ar a (.lt (m + 4 - 4))
        rw [if_neg (by omega), Nat.add_sub_cancel]
      | ar c d =>
        have h1 := Kd.size_pos c
        have h2 := Kd.size_pos d
        have e : (Kd.ar c d).size = c.size + d.size := rfl
        omega
theorem deep_one {k : Kd} (hd : k.depth = 1) (hs : k.size = 2) (hl : k.lets 4) : ∃ m a, m < 4 ∧ a < 4 ∧ k = ap m (.lt a) := by
  cases k with
  | lt a => cases hd
  | ar a b =>
    have hs : a.size + b.size = 2 := hs
    have h1 := Kd.size_pos a
    have h2 := Kd.size_pos b
    cases a with
    | ar c d =>
      have h1 := Kd.size_pos c
      have h2 := Kd.size_pos d
      have e : (Kd.ar c d).size = c.size + d.size := rfl
      omega
    | lt m =>
      cases b with
      | ar c d =>
        have h1 := Kd.size_pos c
        have h2 := Kd.size_pos d
        have e : (Kd.ar c d).size = c.size + d.size := rfl
        have z : (Kd.lt m).size = 1 := rfl
        omega
      | lt a =>
        have hm : m < 4 := hl.1
        exact ⟨m, a, hm, hl.2, (if_pos (by omega)).symm⟩
end HS
end UC
set_option Elab.async false
set_option linter.all false
set_option maxRecDepth 100000
/-! The parts, one by one. -/
namespace UC
namespace HS
theorem pt_000 : part 0 0 0 = true := by decide +kernel
theorem pt_001 : part 0 0 1 = true := by decide +kernel
theorem pt_002 : part 0 0 2 = true := by decide +kernel
theorem pt_003 : part 0 0 3 = true := by decide +kernel
theorem pt_004 : part 0 0 4 = true := by decide +kernel
theorem pt_005 : part 0 0 5 = true := by decide +kernel
theorem pt_006 : part 0 0 6 = true := by decide +kernel
theorem pt_007 : part 0 0 7 = true := by decide +kernel
theorem pt_010 : part 0 1 0 = true := by decide +kernel
theorem pt_011 : part 0 1 1 = true := by decide +kernel
theorem pt_012 : part 0 1 2 = true := by decide +kernel
theorem pt_013 : part 0 1 3 = true := by decide +kernel
theorem pt_014 : part 0 1 4 = true := by decide +kernel
theorem pt_015 : part 0 1 5 = true := by decide +kernel
theorem pt_016 : part 0 1 6 = true := by decide +kernel
theorem pt_017 : part 0 1 7 = true := by decide +kernel
theorem pt_020 : part 0 2 0 = true := by decide +kernel
theorem pt_021 : part 0 2 1 = true := by decide +kernel
theorem pt_022 : part 0 2 2 = true := by decide +kernel
theorem pt_023 : part 0 2 3 = true := by decide +kernel
theorem pt_024 : part 0 2 4 = true := by decide +kernel
theorem pt_025 : part 0 2 5 = true := by decide +kernel
theorem pt_026 : part 0 2 6 = true := by decide +kernel
theorem pt_027 : part 0 2 7 = true := by decide +kernel
theorem pt_030 : part 0 3 0 = true := by decide +kernel
theorem pt_031 : part 0 3 1 = true := by decide +kernel
theorem pt_032 : part 0 3 2 = true := by decide +kernel
theorem pt_033 : part 0 3 3 = true := by decide +kernel
theorem pt_034 : part 0 3 4 = true := by decide +kernel
theorem pt_035 : part 0 3 5 = true := by decide +kernel
theorem pt_036 : part 0 3 6 = true := by decide +kernel
theorem pt_037 : part 0 3 7 = true := by decide +kernel
theorem pt_040 : part 0 4 0 = true := by decide +kernel
theorem pt_041 : part 0 4 1 = true := by decide +kernel
theorem pt_042 : part 0 4 2 = true := by decide +kernel
theorem pt_043 : part 0 4 3 = true := by decide +kernel
theorem pt_044 : part 0 4 4 = true := by decide +kernel
theorem pt_045 : part 0 4 5 = true := by decide +kernel
theorem pt_046 : part 0 4 6 = true := by decide +kernel
theorem pt_047 : part 0 4 7 = true := by decide +kernel
theorem pt_050 : part 0 5 0 = true := by decide +kernel
theorem pt_051 : part 0 5 1 = true := by decide +kernel
theorem pt_052 : part 0 5 2 = true := by decide +kernel
theorem pt_053 : part 0 5 3 = true := by decide +kernel
theorem pt_054 : part 0 5 4 = true := by decide +kernel
theorem pt_055 : part 0 5 5 = true := by decide +kernel
theorem pt_056 : part 0 5 6 = true := by decide +kernel
theorem pt_057 : part 0 5 7 = true := by decide +kernel
theorem pt_060 : part 0 6 0 = true := by decide +kernel
theorem pt_061 : part 0 6 1 = true := by decide +kernel
theorem pt_062 : part 0 6 2 = true := by decide +kernel
theorem pt_063 : part 0 6 3 = true := by decide +kernel
theorem pt_064 : part 0 6 4 = true := by decide +kernel
theorem pt_065 : part 0 6 5 = true := by decide +kernel
theorem pt_066 : part 0 6 6 = true := by decide +kernel
theorem pt_067 : part 0 6 7 = true := by decide +kernel
theorem pt_070 : part 0 7 0 = true := by decide +kernel
theorem pt_071 : part 0 7 1 = true := by decide +kernel
theorem pt_072 : part 0 7 2 = true := by decide +kernel
theorem pt_073 : part 0 7 3 = true := by decide +kernel
theorem pt_074 : part 0 7 4 = true := by decide +kernel
theorem pt_075 : part 0 7 5 = true := by decide +kernel
theorem pt_076 : part 0 7 6 = true := by decide +kernel
theorem pt_077 : part 0 7 7 = true := by decide +kernel
theorem pt_100 : part 1 0 0 = true := by decide +kernel
theorem pt_101 : part 1 0 1 = true := by decide +kernel
theorem pt_102 : part 1 0 2 = true := by decide +kernel
theorem pt_103 : part 1 0 3 = true := by decide +kernel
theorem pt_104 : part 1 0 4 = true := by decide +kernel
theorem pt_105 : part 1 0 5 = true := by decide +kernel
theorem pt_106 : part 1 0 6 = true := by decide +kernel
theorem pt_107 : part 1 0 7 = true := by decide +kernel
theorem pt_110 : part 1 1 0 = true := by decide +kernel
theorem pt_111 : part 1 1 1 = true := by decide +kernel
theorem pt_112 : part 1 1 2 = true := by decide +kernel
theorem pt_113 : part 1 1 3 = true := by decide +kernel
theorem pt_114 : part 1 1 4 = true := by decide +kernel
theorem pt_115 : part 1 1 5 = true := by decide +kernel
theorem pt_116 : part 1 1 6 = true := by decide +kernel
theorem pt_117 : part 1 1 7 = true := by decide +kernel
theorem pt_120 : part 1 2 0 = true := by decide +kernel
theorem pt_121 : part 1 2 1 = true := by decide +kernel
theorem pt_122 : part 1 2 2 = true := by decide +kernel
theorem pt_123 : part 1 2 3 = true := by decide +kernel
theorem pt_124 : part 1 2 4 = true := by decide +kernel
theorem pt_125 : part 1 2 5 = true := by decide +kernel
theorem pt_126 : part 1 2 6 = true := by decide +kernel
theorem pt_127 : part 1 2 7 = true := by decide +kernel
theorem pt_130 : part 1 3 0 = true := by decide +kernel
theorem pt_131 : part 1 3 1 = true := by decide +kernel
theorem pt_132 : part 1 3 2 = true := by decide +kernel
theorem pt_133 : part 1 3 3 = true := by decide +kernel
theorem pt_134 : part 1 3 4 = true := by decide +kernel
theorem pt_135 : part 1 3 5 = true := by decide +kernel
theorem pt_136 : part 1 3 6 = true := by decide +kernel
theorem pt_137 : part 1 3 7 = true := by decide +kernel
theorem pt_140 : part 1 4 0 = true := by decide +kernel
theorem pt_141 : part 1 4 1 = true := by decide +kernel
theorem pt_142 : part 1 4 2 = true := by decide +kernel
theorem pt_143 : part 1 4 3 = true := by decide +kernel
theorem pt_144 : part 1 4 4 = true := by decide +kernel
theorem pt_145 : part 1 4 5 = true := by decide +kernel
theorem pt_146 : part 1 4 6 = true := by decide +kernel
theorem pt_147 : part 1 4 7 = true := by decide +kernel
theorem pt_150 : part 1 5 0 = true := by decide +kernel
theorem pt_151 : part 1 5 1 = true := by decide +kernel
theorem pt_152 : part 1 5 2 = true := by decide +kernel
theorem pt_153 : part 1 5 3 = true := by decide +kernel
theorem pt_154 : part 1 5 4 = true := by decide +kernel
theorem pt_155 : part 1 5 5 = true := by decide +kernel
theorem pt_156 : part 1 5 6 = true := by decide +kernel
theorem pt_157 : part 1 5 7 = true := by decide +kernel
theorem pt_160 : part 1 6 0 = true := by decide +kernel
theorem pt_161 : part 1 6 1 = true := by decide +kernel
theorem pt_162 : part 1 6 2 = true := by decide +kernel
theorem pt_163 : part 1 6 3 = true := by decide +kernel
theorem pt_164 : part 1 6 4 = true := by decide +kernel
theorem pt_165 : part 1 6 5 = true := by decide +kernel
theorem pt_166 : part 1 6 6 = true := by decide +kernel
theorem pt_167 : part 1 6 7 = true := by decide +kernel
theorem pt_170 : part 1 7 0 = true := by decide +kernel
theorem pt_171 : part 1 7 1 = true := by decide +kernel
theorem pt_172 : part 1 7 2 = true := by decide +kernel
theorem pt_173 : part 1 7 3 = true := by decide +kernel
theorem pt_174 : part 1 7 4 = true := by decide +kernel
theorem pt_175 : part 1 7 5 = true := by decide +kernel
theorem pt_176 : part 1 7 6 = true := by decide +kernel
theorem pt_177 : part 1 7 7 = true := by decide +kernel
theorem pt_200 : part 2 0 0 = true := by decide +kernel
theorem pt_201 : part 2 0 1 = true := by decide +kernel
theorem pt_202 : part 2 0 2 = true := by decide +kernel
theorem pt_203 : part 2 0 3 = true := by decide +kernel
theorem pt_204 : part 2 0 4 = true := by decide +kernel
theorem pt_205 : part 2 0 5 = true := by decide +kernel
theorem pt_206 : part 2 0 6 = true := by decide +kernel
theorem pt_207 : part 2 0 7 = true := by decide +kernel
theorem pt_210 : part 2 1 0 = true := by decide +kernel
theorem pt_211 : part 2 1 1 = true := by decide +kernel
theorem pt_212 : part 2 1 2 = true := by decide +kernel
theorem pt_213 : part 2 1 3 = true := by decide +kernel
theorem pt_214 : part 2 1 4 = true := by decide +kernel
theorem pt_215 : part 2 1 5 = true := by decide +kernel
theorem pt_216 : part 2 1 6 = true := by decide +kernel
theorem pt_217 : part 2 1 7 = true := by decide +kernel
theorem pt_220 : part 2 2 0 = true := by decide +kernel
theorem pt_221 : part 2 2 1 = true := by decide +kernel
theorem pt_222 : part 2 2 2 = true := by decide +kernel
theorem pt_223 : part 2 2 3 = true := by decide +kernel
theorem pt_224 : part 2 2 4 = true := by decide +kernel
theorem pt_225 : part 2 2 5 = true := by decide +kernel
theorem pt_226 : part 2 2 6 = true := by decide +kernel
theorem pt_227 : part 2 2 7 = true := by decide +kernel
theorem pt_230 : part 2 3 0 = true := by decide +kernel
theorem pt_231 : part 2 3 1 = true := by decide +kernel
theorem pt_232 : part 2 3 2 = true := by decide +kernel
theorem pt_233 : part 2 3 3 = true := by decide +kernel
theorem pt_234 : part 2 3 4 = true := by decide +kernel
theorem pt_235 : part 2 3 5 = true := by decide +kernel
theorem pt_236 : part 2 3 6 = true := by decide +kernel
theorem pt_237 : part 2 3 7 = true := by decide +kernel
theorem pt_240 : part 2 4 0 = true := by decide +kernel
theorem pt_241 : part 2 4 1 = true := by decide +kernel
theorem pt_242 : part 2 4 2 = true := by decide +kernel
theorem pt_243 : part 2 4 3 = true := by decide +kernel
theorem pt_244 : part 2 4 4 = true := by decide +kernel
theorem pt_245 : part 2 4 5 = true := by decide +kernel
theorem pt_246 : part 2 4 6 = true := by decide +kernel
theorem pt_247 : part 2 4 7 = true := by decide +kernel
theorem pt_250 : part 2 5 0 = true := by decide +kernel
theorem pt_251 : part 2 5 1 = true := by decide +kernel
theorem pt_252 : part 2 5 2 = true := by decide +kernel
theorem pt_253 : part 2 5 3 = true := by decide +kernel
theorem pt_254 : part 2 5 4 = true := by decide +kernel
theorem pt_255 : part 2 5 5 = true := by decide +kernel
theorem pt_256 : part 2 5 6 = true := by decide +kernel
theorem pt_257 : part 2 5 7 = true := by decide +kernel
theorem pt_260 : part 2 6 0 = true := by decide +kernel
theorem pt_261 : part 2 6 1 = true := by decide +kernel
theorem pt_262 : part 2 6 2 = true := by decide +kernel
theorem pt_263 : part 2 6 3 = true := by decide +kernel
theorem pt_264 : part 2 6 4 = true := by decide +kernel
theorem pt_265 : part 2 6 5 = true := by decide +kernel
theorem pt_266 : part 2 6 6 = true := by decide +kernel
theorem pt_267 : part 2 6 7 = true := by decide +kernel
theorem pt_270 : part 2 7 0 = true := by decide +kernel
theorem pt_271 : part 2 7 1 = true := by decide +kernel
theorem pt_272 : part 2 7 2 = true := by decide +kernel
theorem pt_273 : part 2 7 3 = true := by decide +kernel
theorem pt_274 : part 2 7 4 = true := by decide +kernel
theorem pt_275 : part 2 7 5 = true := by decide +kernel
theorem pt_276 : part 2 7 6 = true := by decide +kernel
theorem pt_277 : part 2 7 7 = true := by decide +kernel
theorem pt_300 : part 3 0 0 = true := by decide +kernel
theorem pt_301 : part 3 0 1 = true := by decide +kernel
theorem pt_302 : part 3 0 2 = true := by decide +kernel
theorem pt_303 : part 3 0 3 = true := by decide +kernel
theorem pt_304 : part 3 0 4 = true := by decide +kernel
theorem pt_305 : part 3 0 5 = true := by decide +kernel
theorem pt_306 : part 3 0 6 = true := by decide +kernel
theorem pt_307 : part 3 0 7 = true := by decide +kernel
theorem pt_310 : part 3 1 0 = true := by decide +kernel
theorem pt_311 : part 3 1 1 = true := by decide +kernel
theorem pt_312 : part 3 1 2 = true := by decide +kernel
theorem pt_313 : part 3 1 3 = true := by decide +kernel
theorem pt_314 : part 3 1 4 = true := by decide +kernel
theorem pt_315 : part 3 1 5 = true := by decide +kernel
theorem pt_316 : part 3 1 6 = true := by decide +kernel
theorem pt_317 : part 3 1 7 = true := by decide +kernel
theorem pt_320 : part 3 2 0 = true := by decide +kernel
theorem pt_321 : part 3 2 1 = true := by decide +kernel
theorem pt_322 : part 3 2 2 = true := by decide +kernel
theorem pt_323 : part 3 2 3 = true := by decide +kernel
theorem pt_324 : part 3 2 4 = true := by decide +kernel
theorem pt_325 : part 3 2 5 = true := by decide +kernel
theorem pt_326 : part 3 2 6 = true := by decide +kernel
theorem pt_327 : part 3 2 7 = true := by decide +kernel
theorem pt_330 : part 3 3 0 = true := by decide +kernel
theorem pt_331 : part 3 3 1 = true := by decide +kernel
theorem pt_332 : part 3 3 2 = true := by decide +kernel
theorem pt_333 : part 3 3 3 = true := by decide +kernel
theorem pt_334 : part 3 3 4 = true := by decide +kernel
theorem pt_335 : part 3 3 5 = true := by decide +kernel
theorem pt_336 : part 3 3 6 = true := by decide +kernel
theorem pt_337 : part 3 3 7 = true := by decide +kernel
theorem pt_340 : part 3 4 0 = true := by decide +kernel
theorem pt_341 : part 3 4 1 = true := by decide +kernel
theorem pt_342 : part 3 4 2 = true := by decide +kernel
theorem pt_343 : part 3 4 3 = true := by decide +kernel
theorem pt_344 : part 3 4 4 = true := by decide +kernel
theorem pt_345 : part 3 4 5 = true := by decide +kernel
theorem pt_346 : part 3 4 6 = true := by decide +kernel
theorem pt_347 : part 3 4 7 = true := by decide +kernel
theorem pt_350 : part 3 5 0 = true := by decide +kernel
theorem pt_351 : part 3 5 1 = true := by decide +kernel
theorem pt_352 : part 3 5 2 = true := by decide +kernel
theorem pt_353 : part 3 5 3 = true := by decide +kernel
theorem pt_354 : part 3 5 4 = true := by decide +kernel
theorem pt_355 : part 3 5 5 = true := by decide +kernel
theorem pt_356 : part 3 5 6 = true := by decide +kernel
theorem pt_357 : part 3 5 7 = true := by decide +kernel
theorem pt_360 : part 3 6 0 = true := by decide +kernel
theorem pt_361 : part 3 6 1 = true := by decide +kernel
theorem pt_362 : part 3 6 2 = true := by decide +kernel
theorem pt_363 : part 3 6 3 = true := by decide +kernel
theorem pt_364 : part 3 6 4 = true := by decide +kernel
theorem pt_365 : part 3 6 5 = true := by decide +kernel
theorem pt_366 : part 3 6 6 = true := by decide +kernel
theorem pt_367 : part 3 6 7 = true := by decide +kernel
theorem pt_370 : part 3 7 0 = true := by decide +kernel
theorem pt_371 : part 3 7 1 = true := by decide +kernel
theorem pt_372 : part 3 7 2 = true := by decide +kernel
theorem pt_373 : part 3 7 3 = true := by decide +kernel
theorem pt_374 : part 3 7 4 = true := by decide +kernel
theorem pt_375 : part 3 7 5 = true := by decide +kernel
theorem pt_376 : part 3 7 6 = true := by decide +kernel
theorem pt_377 : part 3 7 7 = true := by decide +kernel
theorem pt_400 : part 4 0 0 = true := by decide +kernel
theorem pt_401 : part 4 0 1 = true := by decide +kernel
theorem pt_402 : part 4 0 2 = true := by decide +kernel
theorem pt_403 : part 4 0 3 = true := by decide +kernel
theorem pt_404 : part 4 0 4 = true := by decide +kernel
theorem pt_405 : part 4 0 5 = true := by decide +kernel
theorem pt_406 : part 4 0 6 = true := by decide +kernel
theorem pt_407 : part 4 0 7 = true := by decide +kernel
theorem pt_410 : part 4 1 0 = true := by decide +kernel
theorem pt_411 : part 4 1 1 = true := by decide +kernel
theorem pt_412 : part 4 1 2 = true := by decide +kernel
theorem pt_413 : part 4 1 3 = true := by decide +kernel
theorem pt_414 : part 4 1 4 = true := by decide +kernel
theorem pt_415 : part 4 1 5 = true := by decide +kernel
theorem pt_416 : part 4 1 6 = true := by decide +kernel
theorem pt_417 : part 4 1 7 = true := by decide +kernel
theorem pt_420 : part 4 2 0 = true := by decide +kernel
theorem pt_421 : part 4 2 1 = true := by decide +kernel
theorem pt_422 : part 4 2 2 = true := by decide +kernel
theorem pt_423 : part 4 2 3 = true := by decide +kernel
theorem pt_424 : part 4 2 4 = true := by decide +kernel
theorem pt_425 : part 4 2 5 = true := by decide +kernel
theorem pt_426 : part 4 2 6 = true := by decide +kernel
theorem pt_427 : part 4 2 7 = true := by decide +kernel
theorem pt_430 : part 4 3 0 = true := by decide +kernel
theorem pt_431 : part 4 3 1 = true := by decide +kernel
theorem pt_432 : part 4 3 2 = true := by decide +kernel
theorem pt_433 : part 4 3 3 = true := by decide +kernel
theorem pt_434 : part 4 3 4 = true := by decide +kernel
theorem pt_435 : part 4 3 5 = true := by decide +kernel
theorem pt_436 : part 4 3 6 = true := by decide +kernel
theorem pt_437 : part 4 3 7 = true := by decide +kernel
theorem pt_440 : part 4 4 0 = true := by decide +kernel
theorem pt_441 : part 4 4 1 = true := by decide +kernel
theorem pt_442 : part 4 4 2 = true := by decide +kernel
theorem pt_443 : part 4 4 3 = true := by decide +kernel
theorem pt_444 : part 4 4 4 = true := by decide +kernel
theorem pt_445 : part 4 4 5 = true := by decide +kernel
theorem pt_446 : part 4 4 6 = true := by decide +kernel
theorem pt_447 : part 4 4 7 = true := by decide +kernel
theorem pt_450 : part 4 5 0 = true := by decide +kernel
theorem pt_451 : part 4 5 1 = true := by decide +kernel
theorem pt_452 : part 4 5 2 = true := by decide +kernel
theorem pt_453 : part 4 5 3 = true := by decide +kernel
theorem pt_454 : part 4 5 4 = true := by decide +kernel
theorem pt_455 : part 4 5 5 = true := by decide +kernel
theorem pt_456 : part 4 5 6 = true := by decide +kernel
theorem pt_457 : part 4 5 7 = true := by decide +kernel
theorem pt_460 : part 4 6 0 = true := by decide +kernel
theorem pt_461 : part 4 6 1 = true := by decide +kernel
theorem pt_462 : part 4 6 2 = true := by decide +kernel
theorem pt_463 : part 4 6 3 = true := by decide +kernel
theorem pt_464 : part 4 6 4 = true := by decide +kernel
theorem pt_465 : part 4 6 5 = true := by decide +kernel
theorem pt_466 : part 4 6 6 = true := by decide +kernel
theorem pt_467 : part 4 6 7 = true := by decide +kernel
theorem pt_470 : part 4 7 0 = true := by decide +kernel
theorem pt_471 : part 4 7 1 = true := by decide +kernel
theorem pt_472 : part 4 7 2 = true := by decide +kernel
theorem pt_473 : part 4 7 3 = true := by decide +kernel
theorem pt_474 : part 4 7 4 = true := by decide +kernel
theorem pt_475 : part 4 7 5 = true := by decide +kernel
theorem pt_476 : part 4 7 6 = true := by decide +kernel
theorem pt_477 : part 4 7 7 = true := by decide +kernel
theorem pt_500 : part 5 0 0 = true := by decide +kernel
theorem pt_501 : part 5 0 1 = true := by decide +kernel
theorem pt_502 : part 5 0 2 = true := by decide +kernel
theorem pt_503 : part 5 0 3 = true := by decide +kernel
theorem pt_504 : part 5 0 4 = true := by decide +kernel
theorem pt_505 : part 5 0 5 = true := by decide +kernel
theorem pt_506 : part 5 0 6 = true := by decide +kernel
theorem pt_507 : part 5 0 7 = true := by decide +kernel
theorem pt_510 : part 5 1 0 = true := by decide +kernel
theorem pt_511 : part 5 1 1 = true := by decide +kernel
theorem pt_512 : part 5 1 2 = true := by decide +kernel
theorem pt_513 : part 5 1 3 = true := by decide +kernel
theorem pt_514 : part 5 1 4 = true := by decide +kernel
theorem pt_515 : part 5 1 5 = true := by decide +kernel
theorem pt_516 : part 5 1 6 = true := by decide +kernel
theorem pt_517 : part 5 1 7 = true := by decide +kernel
theorem pt_520 : part 5 2 0 = true := by decide +kernel
theorem pt_521 : part 5 2 1 = true := by decide +kernel
theorem pt_522 : part 5 2 2 = true := by decide +kernel
theorem pt_523 : part 5 2 3 = true := by decide +kernel
theorem pt_524 : part 5 2 4 = true := by decide +kernel
theorem pt_525 : part 5 2 5 = true := by decide +kernel
theorem pt_526 : part 5 2 6 = true := by decide +kernel
theorem pt_527 : part 5 2 7 = true := by decide +kernel
theorem pt_530 : part 5 3 0 = true := by decide +kernel
theorem pt_531 : part 5 3 1 = true := by decide +kernel
theorem pt_532 : part 5 3 2 = true := by decide +kernel
theorem pt_533 : part 5 3 3 = true := by decide +kernel
theorem pt_534 : part 5 3 4 = true := by decide +kernel
theorem pt_535 : part 5 3 5 = true := by decide +kernel
theorem pt_536 : part 5 3 6 = true := by decide +kernel
theorem pt_537 : part 5 3 7 = true := by decide +kernel
theorem pt_540 : part 5 4 0 = true := by decide +kernel
theorem pt_541 : part 5 4 1 = true := by decide +kernel
theorem pt_542 : part 5 4 2 = true := by decide +kernel
theorem pt_543 : part 5 4 3 = true := by decide +kernel
theorem pt_544 : part 5 4 4 = true := by decide +kernel
theorem pt_545 : part 5 4 5 = true := by decide +kernel
theorem pt_546 : part 5 4 6 = true := by decide +kernel
theorem pt_547 : part 5 4 7 = true := by decide +kernel
theorem pt_550 : part 5 5 0 = true := by decide +kernel
theorem pt_551 : part 5 5 1 = true := by decide +kernel
theorem pt_552 : part 5 5 2 = true := by decide +kernel
theorem pt_553 : part 5 5 3 = true := by decide +kernel
theorem pt_554 : part 5 5 4 = true := by decide +kernel
theorem pt_555 : part 5 5 5 = true := by decide +kernel
theorem pt_556 : part 5 5 6 = true := by decide +kernel
theorem pt_557 : part 5 5 7 = true := by decide +kernel
theorem pt_560 : part 5 6 0 = true := by decide +kernel
theorem pt_561 : part 5 6 1 = true := by decide +kernel
theorem pt_562 : part 5 6 2 = true := by decide +kernel
theorem pt_563 : part 5 6 3 = true := by decide +kernel
theorem pt_564 : part 5 6 4 = true := by decide +kernel
theorem pt_565 : part 5 6 5 = true := by decide +kernel
theorem pt_566 : part 5 6 6 = true := by decide +kernel
theorem pt_567 : part 5 6 7 = true := by decide +kernel
theorem pt_570 : part 5 7 0 = true := by decide +kernel
theorem pt_571 : part 5 7 1 = true := by decide +kernel
theorem pt_572 : part 5 7 2 = true := by decide +kernel
theorem pt_573 : part 5 7 3 = true := by decide +kernel
theorem pt_574 : part 5 7 4 = true := by decide +kernel
theorem pt_575 : part 5 7 5 = true := by decide +kernel
theorem pt_576 : part 5 7 6 = true := by decide +kernel
theorem pt_577 : part 5 7 7 = true := by decide +kernel
theorem pt_600 : part 6 0 0 = true := by decide +kernel
theorem pt_601 : part 6 0 1 = true := by decide +kernel
theorem pt_602 : part 6 0 2 = true := by decide +kernel
theorem pt_603 : part 6 0 3 = true := by decide +kernel
theorem pt_604 : part 6 0 4 = true := by decide +kernel
theorem pt_605 : part 6 0 5 = true := by decide +kernel
theorem pt_606 : part 6 0 6 = true := by decide +kernel
theorem pt_607 : part 6 0 7 = true := by decide +kernel
theorem pt_610 : part 6 1 0 = true := by decide +kernel
theorem pt_611 : part 6 1 1 = true := by decide +kernel
theorem pt_612 : part 6 1 2 = true := by decide +kernel
theorem pt_613 : part 6 1 3 = true := by decide +kernel
theorem pt_614 : part 6 1 4 = true := by decide +kernel
theorem pt_615 : part 6 1 5 = true := by decide +kernel
theorem pt_616 : part 6 1 6 = true := by decide +kernel
theorem pt_617 : part 6 1 7 = true := by decide +kernel
theorem pt_620 : part 6 2 0 = true := by decide +kernel
theorem pt_621 : part 6 2 1 = true := by decide +kernel
theorem pt_622 : part 6 2 2 = true := by decide +kernel
theorem pt_623 : part 6 2 3 = true := by decide +kernel
theorem pt_624 : part 6 2 4 = true := by decide +kernel
theorem pt_625 : part 6 2 5 = true := by decide +kernel
theorem pt_626 : part 6 2 6 = true := by decide +kernel
theorem pt_627 : part 6 2 7 = true := by decide +kernel
theorem pt_630 : part 6 3 0 = true := by decide +kernel
theorem pt_631 : part 6 3 1 = true := by decide +kernel
theorem pt_632 : part 6 3 2 = true := by decide +kernel
theorem pt_633 : part 6 3 3 = true := by decide +kernel
theorem pt_634 : part 6 3 4 = true := by decide +kernel
theorem pt_635 : part 6 3 5 = true := by decide +kernel
theorem pt_636 : part 6 3 6 = true := by decide +kernel
theorem pt_637 : part 6 3 7 = true := by decide +kernel
theorem pt_640 : part 6 4 0 = true := by decide +kernel
theorem pt_641 : part 6 4 1 = true := by decide +kernel
theorem pt_642 : part 6 4 2 = true := by decide +kernel
theorem pt_643 : part 6 4 3 = true := by decide +kernel
theorem pt_644 : part 6 4 4 = true := by decide +kernel
theorem pt_645 : part 6 4 5 = true := by decide +kernel
theorem pt_646 : part 6 4 6 = true := by decide +kernel
theorem pt_647 : part 6 4 7 = true := by decide +kernel
theorem pt_650 : part 6 5 0 = true := by decide +kernel
theorem pt_651 : part 6 5 1 = true := by decide +kernel
theorem pt_652 : part 6 5 2 = true := by decide +kernel
theorem pt_653 : part 6 5 3 = true := by decide +kernel
theorem pt_654 : part 6 5 4 = true := by decide +kernel
theorem pt_655 : part 6 5 5 = true := by decide +kernel
theorem pt_656 : part 6 5 6 = true := by decide +kernel
theorem pt_657 : part 6 5 7 = true := by decide +kernel
theorem pt_660 : part 6 6 0 = true := by decide +kernel
theorem pt_661 : part 6 6 1 = true := by decide +kernel
theorem pt_662 : part 6 6 2 = true := by decide +kernel
theorem pt_663 : part 6 6 3 = true := by decide +kernel
theorem pt_664 : part 6 6 4 = true := by decide +kernel
theorem pt_665 : part 6 6 5 = true := by decide +kernel
theorem pt_666 : part 6 6 6 = true := by decide +kernel
theorem pt_667 : part 6 6 7 = true := by decide +kernel
theorem pt_670 : part 6 7 0 = true := by decide +kernel
theorem pt_671 : part 6 7 1 = true := by decide +kernel
theorem pt_672 : part 6 7 2 = true := by decide +kernel
theorem pt_673 : part 6 7 3 = true := by decide +kernel
theorem pt_674 : part 6 7 4 = true := by decide +kernel
theorem pt_675 : part 6 7 5 = true := by decide +kernel
theorem pt_676 : part 6 7 6 = true := by decide +kernel
theorem pt_677 : part 6 7 7 = true := by decide +kernel
theorem pt_700 : part 7 0 0 = true := by decide +kernel
theorem pt_701 : part 7 0 1 = true := by decide +kernel
theorem pt_702 : part 7 0 2 = true := by decide +kernel
theorem pt_703 : part 7 0 3 = true := by decide +kernel
theorem pt_704 : part 7 0 4 = true := by decide +kernel
theorem pt_705 : part 7 0 5 = true := by decide +kernel
theorem pt_706 : part 7 0 6 = true := by decide +kernel
theorem pt_707 : part 7 0 7 = true := by decide +kernel
theorem pt_710 : part 7 1 0 = true := by decide +kernel
theorem pt_711 : part 7 1 1 = true := by decide +kernel
theorem pt_712 : part 7 1 2 = true := by decide +kernel
theorem pt_713 : part 7 1 3 = true := by decide +kernel
theorem pt_714 : part 7 1 4 = true := by decide +kernel
theorem pt_715 : part 7 1 5 = true := by decide +kernel
theorem pt_716 : part 7 1 6 = true := by decide +kernel
theorem pt_717 : part 7 1 7 = true := by decide +kernel
theorem pt_720 : part 7 2 0 = true := by decide +kernel
theorem pt_721 : part 7 2 1 = true := by decide +kernel
theorem pt_722 : part 7 2 2 = true := by decide +kernel
theorem pt_723 : part 7 2 3 = true := by decide +kernel
theorem pt_724 : part 7 2 4 = true := by decide +kernel
theorem pt_725 : part 7 2 5 = true := by decide +kernel
theorem pt_726 : part 7 2 6 = true := by decide +kernel
theorem pt_727 : part 7 2 7 = true := by decide +kernel
theorem pt_730 : part 7 3 0 = true := by decide +kernel
theorem pt_731 : part 7 3 1 = true := by decide +kernel
theorem pt_732 : part 7 3 2 = true := by decide +kernel
theorem pt_733 : part 7 3 3 = true := by decide +kernel
theorem pt_734 : part 7 3 4 = true := by decide +kernel
theorem pt_735 : part 7 3 5 = true := by decide +kernel
theorem pt_736 : part 7 3 6 = true := by decide +kernel
theorem pt_737 : part 7 3 7 = true := by decide +kernel
theorem pt_740 : part 7 4 0 = true := by decide +kernel
theorem pt_741 : part 7 4 1 = true := by decide +kernel
theorem pt_742 : part 7 4 2 = true := by decide +kernel
theorem pt_743 : part 7 4 3 = true := by decide +kernel
theorem pt_744 : part 7 4 4 = true := by decide +kernel
theorem pt_745 : part 7 4 5 = true := by decide +kernel
theorem pt_746 : part 7 4 6 = true := by decide +kernel
theorem pt_747 : part 7 4 7 = true := by decide +kernel
theorem pt_750 : part 7 5 0 = true := by decide +kernel
theorem pt_751 : part 7 5 1 = true := by decide +kernel
theorem pt_752 : part 7 5 2 = true := by decide +kernel
theorem pt_753 : part 7 5 3 = true := by decide +kernel
theorem pt_754 : part 7 5 4 = true := by decide +kernel
theorem pt_755 : part 7 5 5 = true := by decide +kernel
theorem pt_756 : part 7 5 6 = true := by decide +kernel
theorem pt_757 : part 7 5 7 = true := by decide +kernel
theorem pt_760 : part 7 6 0 = true := by decide +kernel
theorem pt_761 : part 7 6 1 = true := by decide +kernel
theorem pt_762 : part 7 6 2 = true := by decide +kernel
theorem pt_763 : part 7 6 3 = true := by decide +kernel
theorem pt_764 : part 7 6 4 = true := by decide +kernel
theorem pt_765 : part 7 6 5 = true := by decide +kernel
theorem pt_766 : part 7 6 6 = true := by decide +kernel
theorem pt_767 : part 7 6 7 = true := by decide +kernel
theorem pt_770 : part 7 7 0 = true := by decide +kernel
theorem pt_771 : part 7 7 1 = true := by decide +kernel
theorem pt_772 : part 7 7 2 = true := by decide +kernel
theorem pt_773 : part 7 7 3 = true := by decide +kernel
theorem pt_774 : part 7 7 4 = true := by decide +kernel
theorem pt_775 : part 7 7 5 = true := by decide +kernel
theorem pt_776 : part 7 7 6 = true := by decide +kernel
theorem pt_777 : part 7 7 7 = true := by decide +kernel
theorem pt_00 : ∀ c, c < 8 → part 0 0 c = true
  | 0, _ => pt_000
  | 1, _ => pt_001
  | 2, _ => pt_002
  | 3, _ => pt_003
  | 4, _ => pt_004
  | 5, _ => pt_005
  | 6, _ => pt_006
  | 7, _ => pt_007
  | n + 8, h => absurd h (by omega)
theorem pt_01 : ∀ c, c < 8 → part 0 1 c = true
  | 0, _ => pt_010
  | 1, _ => pt_011
  | 2, _ => pt_012
  | 3, _ => pt_013
  | 4, _ => pt_014
  | 5, _ => pt_015
  | 6, _ => pt_016
  | 7, _ => pt_017
  | n + 8, h => absurd h (by omega)
theorem pt_02 : ∀ c, c < 8 → part 0 2 c = true
  | 0, _ => pt_020
  | 1, _ => pt_021
  | 2, _ => pt_022
  | 3, _ => pt_023
  | 4, _ => pt_024
  | 5, _ => pt_025
  | 6, _ => pt_026
  | 7, _ => pt_027
  | n + 8, h => absurd h (by omega)
theorem pt_03 : ∀ c, c < 8 → part 0 3 c = true
  | 0, _ => pt_030
  | 1, _ => pt_031
  | 2, _ => pt_032
  | 3, _ => pt_033
  | 4, _ => pt_034
  | 5, _ => pt_035
  | 6, _ => pt_036
  | 7, _ => pt_037
  | n + 8, h => absurd h (by omega)
theorem pt_04 : ∀ c, c < 8 → part 0 4 c = true
  | 0, _ => pt_040
  | 1, _ => pt_041
  | 2, _ => pt_042
  | 3, _ => pt_043
  | 4, _ => pt_044
  | 5, _ => pt_045
  | 6, _ => pt_046
  | 7, _ => pt_047
  | n + 8, h => absurd h (by omega)
theorem pt_05 : ∀ c, c < 8 → part 0 5 c = true
  | 0, _ => pt_050
  | 1, _ => pt_051
  | 2, _ => pt_052
  | 3, _ => pt_053
  | 4, _ => pt_054
  | 5, _ => pt_055
  | 6, _ => pt_056
  | 7, _ => pt_057
  | n + 8, h => absurd h (by omega)
theorem pt_06 : ∀ c, c < 8 → part 0 6 c = true
  | 0, _ => pt_060
  | 1, _ => pt_061
  | 2, _ => pt_062
  | 3, _ => pt_063
  | 4, _ => pt_064
  | 5, _ => pt_065
  | 6, _ => pt_066
  | 7, _ => pt_067
  | n + 8, h => absurd h (by omega)
theorem pt_07 : ∀ c, c < 8 → part 0 7 c = true
  | 0, _ => pt_070
  | 1, _ => pt_071
  | 2, _ => pt_072
  | 3, _ => pt_073
  | 4, _ => pt_074
  | 5, _ => pt_075
  | 6, _ => pt_076
  | 7, _ => pt_077
  | n + 8, h => absurd h (by omega)
theorem pt_10 : ∀ c, c < 8 → part 1 0 c = true
  | 0, _ => pt_100
  | 1, _ => pt_101
  | 2, _ => pt_102
  | 3, _ => pt_103
  | 4, _ => pt_104
  | 5, _ => pt_105
  | 6, _ => pt_106
  | 7, _ => pt_107
  | n + 8, h => absurd h (by omega)
theorem pt_11 : ∀ c, c < 8 → part 1 1 c = true
  | 0, _ => pt_110
  | 1, _ => pt_111
  | 2, _ => pt_112
  | 3, _ => pt_113
  | 4, _ => pt_114
  | 5, _ => pt_115
  | 6, _ => pt_116
  | 7, _ => pt_117
  | n + 8, h => absurd h (by omega)
theorem pt_12 : ∀ c, c < 8 → part 1 2 c = true
  | 0, _ => pt_120
  | 1, _ => pt_121
  | 2, _ => pt_122
  | 3, _ => pt_123
  | 4, _ => pt_124
  | 5, _ => pt_125
  | 6, _ => pt_126
  | 7, _ => pt_127
  | n + 8, h => absurd h (by omega)
theorem pt_13 : ∀ c, c < 8 → part 1 3 c = true
  | 0, _ => pt_130
  | 1, _ => pt_131
  | 2, _ => pt_132
  | 3, _ => pt_133
  | 4, _ => pt_134
  | 5, _ => pt_135
  | 6, _ => pt_136
  | 7, _ => pt_137
  | n + 8, h => absurd h (by omega)
theorem pt_14 : ∀ c, c < 8 → part 1 4 c = true
  | 0, _ => pt_140
  | 1, _ => pt_141
  | 2, _ => pt_142
  | 3, _ => pt_143
  | 4, _ => pt_144
  | 5, _ => pt_145
  | 6, _ => pt_146
  | 7, _ => pt_147
  | n + 8, h => absurd h (by omega)
theorem pt_15 : ∀ c, c < 8 → part 1 5 c = true
  | 0, _ => pt_150
  | 1, _ => pt_151
  | 2, _ => pt_152
  | 3, _ => pt_153
  | 4, _ => pt_154
  | 5, _ => pt_155
  | 6, _ => pt_156
  | 7, _ => pt_157
  | n + 8, h => absurd h (by omega)
theorem pt_16 : ∀ c, c < 8 → part 1 6 c = true
  | 0, _ => pt_160
  | 1, _ => pt_161
  | 2, _ => pt_162
  | 3, _ => pt_163
  | 4, _ => pt_164
  | 5, _ => pt_165
  | 6, _ => pt_166
  | 7, _ => pt_167
  | n + 8, h => absurd h (by omega)
theorem pt_17 : ∀ c, c < 8 → part 1 7 c = true
  | 0, _ => pt_170
  | 1, _ => pt_171
  | 2, _ => pt_172
  | 3, _ => pt_173
  | 4, _ => pt_174
  | 5, _ => pt_175
  | 6, _ => pt_176
  | 7, _ => pt_177
  | n + 8, h => absurd h (by omega)
theorem pt_20 : ∀ c, c < 8 → part 2 0 c = true
  | 0, _ => pt_200
  | 1, _ => pt_201
  | 2, _ => pt_202
  | 3, _ => pt_203
  | 4, _ => pt_204
  | 5, _ => pt_205
  | 6, _ => pt_206
  | 7, _ => pt_207
  | n + 8, h => absurd h (by omega)
theorem pt_21 : ∀ c, c < 8 → part 2 1 c = true
  | 0, _ => pt_210
  | 1, _ => pt_211
  | 2, _ => pt_212
  | 3, _ => pt_213
  | 4, _ => pt_214
  | 5, _ => pt_215
  | 6, _ => pt_216
  | 7, _ => pt_217
  | n + 8, h => absurd h (by omega)
theorem pt_22 : ∀ c, c < 8 → part 2 2 c = true
  | 0, _ => pt_220
  | 1, _ => pt_221
  | 2, _ => pt_222
  | 3, _ => pt_223
  | 4, _ => pt_224
  | 5, _ => pt_225
  | 6, _ => pt_226
  | 7, _ => pt_227
  | n + 8, h => absurd h (by omega)
theorem pt_23 : ∀ c, c < 8 → part 2 3 c = true
  | 0, _ => pt_230
  | 1, _ => pt_231
  | 2, _ => pt_232
  | 3, _ => pt_233
  | 4, _ => pt_234
  | 5, _ => pt_235
  | 6, _ => pt_236
  | 7, _ => pt_237
  | n + 8, h => absurd h (by omega)
theorem pt_24 : ∀ c, c < 8 → part 2 4 c = true
  | 0, _ => pt_240
  | 1, _ => pt_241
  | 2, _ => pt_242
  | 3, _ => pt_243
  | 4, _ => pt_244
  | 5, _ => pt_245
  | 6, _ => pt_246
  | 7, _ => pt_247
  | n + 8, h => absurd h (by omega)
theorem pt_25 : ∀ c, c < 8 → part 2 5 c = true
  | 0, _ => pt_250
  | 1, _ => pt_251
  | 2, _ => pt_252
  | 3, _ => pt_253
  | 4, _ => pt_254
  | 5, _ => pt_255
  | 6, _ => pt_256
  | 7, _ => pt_257
  | n + 8, h => absurd h (by omega)
theorem pt_26 : ∀ c, c < 8 → part 2 6 c = true
  | 0, _ => pt_260
  | 1, _ => pt_261
  | 2, _ => pt_262
  | 3, _ => pt_263
  | 4, _ => pt_264
  | 5, _ => pt_265
  | 6, _ => pt_266
  | 7, _ => pt_267
  | n + 8, h => absurd h (by omega)
theorem pt_27 : ∀ c, c < 8 → part 2 7 c = true
  | 0, _ => pt_270
  | 1, _ => pt_271
  | 2, _ => pt_272
  | 3, _ => pt_273
  | 4, _ => pt_274
  | 5, _ => pt_275
  | 6, _ => pt_276
  | 7, _ => pt_277
  | n + 8, h => absurd h (by omega)
theorem pt_30 : ∀ c, c < 8 → part 3 0 c = true
  | 0, _ => pt_300
  | 1, _ => pt_301
  | 2, _ => pt_302
  | 3, _ => pt_303
  | 4, _ => pt_304
  | 5, _ => pt_305
  | 6, _ => pt_306
  | 7, _ => pt_307
  | n + 8, h => absurd h (by omega)
theorem pt_31 : ∀ c, c < 8 → part 3 1 c = true
  | 0, _ => pt_310
  | 1, _ => pt_311
  | 2, _ => pt_312
  | 3, _ => pt_313
  | 4, _ => pt_314
  | 5, _ => pt_315
  | 6, _ => pt_316
  | 7, _ => pt_317
  | n + 8, h => absurd h (by omega)
theorem pt_32 : ∀ c, c < 8 → part 3 2 c = true
  | 0, _ => pt_320
  | 1, _ => pt_321
  | 2, _ => pt_322
  | 3, _ => pt_323
  | 4, _ => pt_324
  | 5, _ => pt_325
  | 6, _ => pt_326
  | 7, _ => pt_327
  | n + 8, h => absurd h (by omega)
theorem pt_33 : ∀ c, c < 8 → part 3 3 c = true
  | 0, _ => pt_330
  | 1, _ => pt_331
  | 2, _ => pt_332
  | 3, _ => pt_333
  | 4, _ => pt_334
  | 5, _ => pt_335
  | 6, _ => pt_336
  | 7, _ => pt_337
  | n + 8, h => absurd h (by omega)
theorem pt_34 : ∀ c, c < 8 → part 3 4 c = true
  | 0, _ => pt_340
  | 1, _ => pt_341
  | 2, _ => pt_342
  | 3, _ => pt_343
  | 4, _ => pt_344
  | 5, _ => pt_345
  | 6, _ => pt_346
  | 7, _ => pt_347
  | n + 8, h => absurd h (by omega)
theorem pt_35 : ∀ c, c < 8 → part 3 5 c = true
  | 0, _ => pt_350
  | 1, _ => pt_351
  | 2, _ => pt_352
  | 3, _ => pt_353
  | 4, _ => pt_354
  | 5, _ => pt_355
  | 6, _ => pt_356
  | 7, _ => pt_357
  | n + 8, h => absurd h (by omega)
theorem pt_36 : ∀ c, c < 8 → part 3 6 c = true
  | 0, _ => pt_360
  | 1, _ => pt_361
  | 2, _ => pt_362
  | 3, _ => pt_363
  | 4, _ => pt_364
  | 5, _ => pt_365
  | 6, _ => pt_366
  | 7, _ => pt_367
  | n + 8, h => absurd h (by omega)
theorem pt_37 : ∀ c, c < 8 → part 3 7 c = true
  | 0, _ => pt_370
  | 1, _ => pt_371
  | 2, _ => pt_372
  | 3, _ => pt_373
  | 4, _ => pt_374
  | 5, _ => pt_375
  | 6, _ => pt_376
  | 7, _ => pt_377
  | n + 8, h => absurd h (by omega)
theorem pt_40 : ∀ c, c < 8 → part 4 0 c = true
  | 0, _ => pt_400
  | 1, _ => pt_401
  | 2, _ => pt_402
  | 3, _ => pt_403
  | 4, _ => pt_404
  | 5, _ => pt_405
  | 6, _ => pt_406
  | 7, _ => pt_407
  | n + 8, h => absurd h (by omega)
theorem pt_41 : ∀ c, c < 8 → part 4 1 c = true
  | 0, _ => pt_410
  | 1, _ => pt_411
  | 2, _ => pt_412
  | 3, _ => pt_413
  | 4, _ => pt_414
  | 5, _ => pt_415
  | 6, _ => pt_416
  | 7, _ => pt_417
  | n + 8, h => absurd h (by omega)
theorem pt_42 : ∀ c, c < 8 → part 4 2 c = true
  | 0, _ => pt_420
  | 1, _ => pt_421
  | 2, _ => pt_422
  | 3, _ => pt_423
  | 4, _ => pt_424
  | 5, _ => pt_425
  | 6, _ => pt_426
  | 7, _ => pt_427
  | n + 8, h => absurd h (by omega)
theorem pt_43 : ∀ c, c < 8 → part 4 3 c = true
  | 0, _ => pt_430
  | 1, _ => pt_431
  | 2, _ => pt_432
  | 3, _ => pt_433
  | 4, _ => pt_434
  | 5, _ => pt_435
  | 6, _ => pt_436
  | 7, _ => pt_437
  | n + 8, h => absurd h (by omega)
theorem pt_44 : ∀ c, c < 8 → part 4 4 c = true
  | 0, _ => pt_440
  | 1, _ => pt_441
  | 2, _ => pt_442
  | 3, _ => pt_443
  | 4, _ => pt_444
  | 5, _ => pt_445
  | 6, _ => pt_446
  | 7, _ => pt_447
  | n + 8, h => absurd h (by omega)
theorem pt_45 : ∀ c, c < 8 → part 4 5 c = true
  | 0, _ => pt_450
  | 1, _ => pt_451
  | 2, _ => pt_452
  | 3, _ => pt_453
  | 4, _ => pt_454
  | 5, _ => pt_455
  | 6, _ => pt_456
  | 7, _ => pt_457
  | n + 8, h => absurd h (by omega)
theorem pt_46 : ∀ c, c < 8 → part 4 6 c = true
  | 0, _ => pt_460
  | 1, _ => pt_461
  | 2, _ => pt_462
  | 3, _ => pt_463
  | 4, _ => pt_464
  | 5, _ => pt_465
  | 6, _ => pt_466
  | 7, _ => pt_467
  | n + 8, h => absurd h (by omega)
theorem pt_47 : ∀ c, c < 8 → part 4 7 c = true
  | 0, _ => pt_470
  | 1, _ => pt_471
  | 2, _ => pt_472
  | 3, _ => pt_473
  | 4, _ => pt_474
  | 5, _ => pt_475
  | 6, _ => pt_476
  | 7, _ => pt_477
  | n + 8, h => absurd h (by omega)
theorem pt_50 : ∀ c, c < 8 → part 5 0 c = true
  | 0, _ => pt_500
  | 1, _ => pt_501
  | 2, _ => pt_502
  | 3, _ => pt_503
  | 4, _ => pt_504
  | 5, _ => pt_505
  | 6, _ => pt_506
  | 7, _ => pt_507
  | n + 8, h => absurd h (by omega)
theorem pt_51 : ∀ c, c < 8 → part 5 1 c = true
  | 0, _ => pt_510
  | 1, _ => pt_511
  | 2, _ => pt_512
  | 3, _ => pt_513
  | 4, _ => pt_514
  | 5, _ => pt_515
  | 6, _ => pt_516
  | 7, _ => pt_517
  | n + 8, h => absurd h (by omega)
theorem pt_52 : ∀ c, c < 8 → part 5 2 c = true
  | 0, _ => pt_520
  | 1, _ => pt_521
  | 2, _ => pt_522
  | 3, _ => pt_523
  | 4, _ => pt_524
  | 5, _ => pt_525
  | 6, _ => pt_526
  | 7, _ => pt_527
  | n + 8, h => absurd h (by omega)
theorem pt_53 : ∀ c, c < 8 → part 5 3 c = true
  | 0, _ => pt_530
  | 1, _ => pt_531
  | 2, _ => pt_532
  | 3, _ => pt_533
  | 4, _ => pt_534
  | 5, _ => pt_535
  | 6, _ => pt_536
  | 7, _ => pt_537
  | n + 8, h => absurd h (by omega)
theorem pt_54 : ∀ c, c < 8 → part 5 4 c = true
  | 0, _ => pt_540
  | 1, _ => pt_541
  | 2, _ => pt_542
  | 3, _ => pt_543
  | 4, _ => pt_544
  | 5, _ => pt_545
  | 6, _ => pt_546
  | 7, _ => pt_547
  | n + 8, h => absurd h (by omega)
theorem pt_55 : ∀ c, c < 8 → part 5 5 c = true
  | 0, _ => pt_550
  | 1, _ => pt_551
  | 2, _ => pt_552
  | 3, _ => pt_553
  | 4, _ => pt_554
  | 5, _ => pt_555
  | 6, _ => pt_556
  | 7, _ => pt_557
  | n + 8, h => absurd h (by omega)
theorem pt_56 : ∀ c, c < 8 → part 5 6 c = true
  | 0, _ => pt_560
  | 1, _ => pt_561
  | 2, _ => pt_562
  | 3, _ => pt_563
  | 4, _ => pt_564
  | 5, _ => pt_565
  | 6, _ => pt_566
  | 7, _ => pt_567
  | n + 8, h => absurd h (by omega)
theorem pt_57 : ∀ c, c < 8 → part 5 7 c = true
  | 0, _ => pt_570
  | 1, _ => pt_571
  | 2, _ => pt_572
  | 3, _ => pt_573
  | 4, _ => pt_574
  | 5, _ => pt_575
  | 6, _ => pt_576
  | 7, _ => pt_577
  | n + 8, h => absurd h (by omega)
theorem pt_60 : ∀ c, c < 8 → part 6 0 c = true
  | 0, _ => pt_600
  | 1, _ => pt_601
  | 2, _ => pt_602
  | 3, _ => pt_603
  | 4, _ => pt_604
  | 5, _ => pt_605
  | 6, _ => pt_606
  | 7, _ => pt_607
  | n + 8, h => absurd h (by omega)
theorem pt_61 : ∀ c, c < 8 → part 6 1 c = true
  | 0, _ => pt_610
  | 1, _ => pt_611
  | 2, _ => pt_612
  | 3, _ => pt_613
  | 4, _ => pt_614
  | 5, _ => pt_615
  | 6, _ => pt_616
  | 7, _ => pt_617
  | n + 8, h => absurd h (by omega)
theorem pt_62 : ∀ c, c < 8 → part 6 2 c = true
  | 0, _ => pt_620
  | 1, _ => pt_621
  | 2, _ => pt_622
  | 3, _ => pt_623
  | 4, _ => pt_624
  | 5, _ => pt_625
  | 6, _ => pt_626
  | 7, _ => pt_627
  | n + 8, h => absurd h (by omega)
theorem pt_63 : ∀ c, c < 8 → part 6 3 c = true
  | 0, _ => pt_630
  | 1, _ => pt_631
  | 2, _ => pt_632
  | 3, _ => pt_633
  | 4, _ => pt_634
  | 5, _ => pt_635
  | 6, _ => pt_636
  | 7, _ => pt_637
  | n + 8, h => absurd h (by omega)
theorem pt_64 : ∀ c, c < 8 → part 6 4 c = true
  | 0, _ => pt_640
  | 1, _ => pt_641
  | 2, _ => pt_642
  | 3, _ => pt_643
  | 4, _ => pt_644
  | 5, _ => pt_645
  | 6, _ => pt_646
  | 7, _ => pt_647
  | n + 8, h => absurd h (by omega)
theorem pt_65 : ∀ c, c < 8 → part 6 5 c = true
  | 0, _ => pt_650
  | 1, _ => pt_651
  | 2, _ => pt_652
  | 3, _ => pt_653
  | 4, _ => pt_654
  | 5, _ => pt_655
  | 6, _ => pt_656
  | 7, _ => pt_657
  | n + 8, h => absurd h (by omega)
theorem pt_66 : ∀ c, c < 8 → part 6 6 c = true
  | 0, _ => pt_660
  | 1, _ => pt_661
  | 2, _ => pt_662
  | 3, _ => pt_663
  | 4, _ => pt_664
  | 5, _ => pt_665
  | 6, _ => pt_666
  | 7, _ => pt_667
  | n + 8, h => absurd h (by omega)
theorem pt_67 : ∀ c, c < 8 → part 6 7 c = true
  | 0, _ => pt_670
  | 1, _ => pt_671
  | 2, _ => pt_672
  | 3, _ => pt_673
  | 4, _ => pt_674
  | 5, _ => pt_675
  | 6, _ => pt_676
  | 7, _ => pt_677
  | n + 8, h => absurd h (by omega)
theorem pt_70 : ∀ c, c < 8 → part 7 0 c = true
  | 0, _ => pt_700
  | 1, _ => pt_701
  | 2, _ => pt_702
  | 3, _ => pt_703
  | 4, _ => pt_704
  | 5, _ => pt_705
  | 6, _ => pt_706
  | 7, _ => pt_707
  | n + 8, h => absurd h (by omega)
theorem pt_71 : ∀ c, c < 8 → part 7 1 c = true
  | 0, _ => pt_710
  | 1, _ => pt_711
  | 2, _ => pt_712
  | 3, _ => pt_713
  | 4, _ => pt_714
  | 5, _ => pt_715
  | 6, _ => pt_716
  | 7, _ => pt_717
  | n + 8, h => absurd h (by omega)
theorem pt_72 : ∀ c, c < 8 → part 7 2 c = true
  | 0, _ => pt_720
  | 1, _ => pt_721
  | 2, _ => pt_722
  | 3, _ => pt_723
  | 4, _ => pt_724
  | 5, _ => pt_725
  | 6, _ => pt_726
  | 7, _ => pt_727
  | n + 8, h => absurd h (by omega)
theorem pt_73 : ∀ c, c < 8 → part 7 3 c = true
  | 0, _ => pt_730
  | 1, _ => pt_731
  | 2, _ => pt_732
  | 3, _ => pt_733
  | 4, _ => pt_734
  | 5, _ => pt_735
  | 6, _ => pt_736
  | 7, _ => pt_737
  | n + 8, h => absurd h (by omega)
theorem pt_74 : ∀ c, c < 8 → part 7 4 c = true
  | 0, _ => pt_740
  | 1, _ => pt_741
  | 2, _ => pt_742
  | 3, _ => pt_743
  | 4, _ => pt_744
  | 5, _ => pt_745
  | 6, _ => pt_746
  | 7, _ => pt_747
  | n + 8, h => absurd h (by omega)
theorem pt_75 : ∀ c, c < 8 → part 7 5 c = true
  | 0, _ => pt_750
  | 1, _ => pt_751
  | 2, _ => pt_752
  | 3, _ => pt_753
  | 4, _ => pt_754
  | 5, _ => pt_755
  | 6, _ => pt_756
  | 7, _ => pt_757
  | n + 8, h => absurd h (by omega)
theorem pt_76 : ∀ c, c < 8 → part 7 6 c = true
  | 0, _ => pt_760
  | 1, _ => pt_761
  | 2, _ => pt_762
  | 3, _ => pt_763
  | 4, _ => pt_764
  | 5, _ => pt_765
  | 6, _ => pt_766
  | 7, _ => pt_767
  | n + 8, h => absurd h (by omega)
theorem pt_77 : ∀ c, c < 8 → part 7 7 c = true
  | 0, _ => pt_770
  | 1, _ => pt_771
  | 2, _ => pt_772
  | 3, _ => pt_773
  | 4, _ => pt_774
  | 5, _ => pt_775
  | 6, _ => pt_776
  | 7, _ => pt_777
  | n + 8, h => absurd h (by omega)
theorem pt_0 : ∀ b, b < 8 → ∀ c, c < 8 → part 0 b c = true
  | 0, _ => pt_00
  | 1, _ => pt_01
  | 2, _ => pt_02
  | 3, _ => pt_03
  | 4, _ => pt_04
  | 5, _ => pt_05
  | 6, _ => pt_06
  | 7, _ => pt_07
  | n + 8, h => absurd h (by omega)
theorem pt_1 : ∀ b, b < 8 → ∀ c, c < 8 → part 1 b c = true
  | 0, _ => pt_10
  | 1, _ => pt_11
  | 2, _ => pt_12
  | 3, _ => pt_13
  | 4, _ => pt_14
  | 5, _ => pt_15
  | 6, _ => pt_16
  | 7, _ => pt_17
  | n + 8, h => absurd h (by omega)
theorem pt_2 : ∀ b, b < 8 → ∀ c, c < 8 → part 2 b c = true
  | 0, _ => pt_20
  | 1, _ => pt_21
  | 2, _ => pt_22
  | 3, _ => pt_23
  | 4, _ => pt_24
  | 5, _ => pt_25
  | 6, _ => pt_26
  | 7, _ => pt_27
  | n + 8, h => absurd h (by omega)
theorem pt_3 : ∀ b, b < 8 → ∀ c, c < 8 → part 3 b c = true
  | 0, _ => pt_30
  | 1, _ => pt_31
  | 2, _ => pt_32
  | 3, _ => pt_33
  | 4, _ => pt_34
  | 5, _ => pt_35
  | 6, _ => pt_36
  | 7, _ => pt_37
  | n + 8, h => absurd h (by omega)
theorem pt_4 : ∀ b, b < 8 → ∀ c, c < 8 → part 4 b c = true
  | 0, _ => pt_40
  | 1, _ => pt_41
  | 2, _ => pt_42
  | 3, _ => pt_43
  | 4, _ => pt_44
  | 5, _ => pt_45
  | 6, _ => pt_46
  | 7, _ => pt_47
  | n + 8, h => absurd h (by omega)
theorem pt_5 : ∀ b, b < 8 → ∀ c, c < 8 → part 5 b c = true
  | 0, _ => pt_50
  | 1, _ => pt_51
  | 2, _ => pt_52
  | 3, _ => pt_53
  | 4, _ => pt_54
  | 5, _ => pt_55
  | 6, _ => pt_56
  | 7, _ => pt_57
  | n + 8, h => absurd h (by omega)
theorem pt_6 : ∀ b, b < 8 → ∀ c, c < 8 → part 6 b c = true
  | 0, _ => pt_60
  | 1, _ => pt_61
  | 2, _ => pt_62
  | 3, _ => pt_63
  | 4, _ => pt_64
  | 5, _ => pt_65
  | 6, _ => pt_66
  | 7, _ => pt_67
  | n + 8, h => absurd h (by omega)
theorem pt_7 : ∀ b, b < 8 → ∀ c, c < 8 → part 7 b c = true
  | 0, _ => pt_70
  | 1, _ => pt_71
  | 2, _ => pt_72
  | 3, _ => pt_73
  | 4, _ => pt_74
  | 5, _ => pt_75
  | 6, _ => pt_76
  | 7, _ => pt_77
  | n + 8, h => absurd h (by omega)
theorem pt_all : ∀ a, a < 8 → ∀ b, b < 8 → ∀ c, c < 8 → part a b c = true
  | 0, _ => pt_0
  | 1, _ => pt_1
  | 2, _ => pt_2
  | 3, _ => pt_3
  | 4, _ => pt_4
  | 5, _ => pt_5
  | 6, _ => pt_6
  | 7, _ => pt_7
  | n + 8, h => absurd h (by omega)
end HS
end UC
set_option Elab.async false
set_option linter.all false
set_option maxRecDepth 4000
/-! No part of a kind of ten letters has the hash of the whole. -/
namespace UC
open HS
theorem calm10 (w : PySem.World) {k : Kd} (hs : k.size ≤ 10) (hl : k.lets 4) : k.calm w := by
  by_cases h8 : k.depth ≤ 8
  · exact .inl h8
  have d := Kd.depth_lt k
  refine .inr ⟨by omega, ?_⟩
  obtain ⟨m9, k8, h9, rfl, d8, s8, l8⟩ := deep_ap (n := 8) (k := k) (by omega) (by omega) hl
  clear d h8 hs hl
  obtain ⟨m8, k7, h8, rfl, d7, s7, l7⟩ := deep_ap (n := 7) d8 s8 l8
  obtain ⟨m7, k6, h7, rfl, d6, s6, l6⟩ := deep_ap (n := 6) d7 s7 l7
  obtain ⟨m6, k5, h6, rfl, d5, s5, l5⟩ := deep_ap (n := 5) d6 s6 l6
  obtain ⟨m5, k4, h5, rfl, d4, s4, l4⟩ := deep_ap (n := 4) d5 s5 l5
  obtain ⟨m4, k3, h4, rfl, d3, s3, l3⟩ := deep_ap (n := 3) d4 s4 l4
  obtain ⟨m3, k2, h3, rfl, d2, s2, l2⟩ := deep_ap (n := 2) d3 s3 l3
  obtain ⟨m2, k1, h2, rfl, d1, s1, l1⟩ := deep_ap (n := 1) d2 s2 l2
  obtain ⟨m1, a, h1, ha, rfl⟩ := deep_one d1 s1 l1
  clear d8 s8 l8 d7 s7 l7 d6 s6 l6 d5 s5 l5 d4 s4 l4 d3 s3 l3 d2 s2 l2 d1 s1 l1
  have mem : (m4, m3, m2, m1, a) ∈ S4 := wide_mem h4 (wide_mem h3 (wide_mem h2 (List.mem_flatMap.mpr ⟨m1, List.mem_range.mpr h1, List.mem_map.mpr ⟨a, List.mem_range.mpr ha, rfl⟩⟩)))
  obtain ⟨o, c⟩ := part_ok h5 h6 h7 (pt_all m5 h5 m6 h6 m7 h7) _ mem
  have c := c m8 h8
  obtain ⟨o8, c⟩ := c
  obtain ⟨o9, c⟩ := c m9 h9
  have o1 := o (stp m1 a) (by simp [f1])
  have o2 := o (stp m2 (stp m1 a)) (by simp [f1])
  have o3 := o (stp m3 (stp m2 (stp m1 a))) (by simp [f1])
  have o4 := o (stp m4 (stp m3 (stp m2 (stp m1 a)))) (by simp [f1])
  have o5 := o (stp m5 (stp m4 (stp m3 (stp m2 (stp m1 a))))) (by simp [f1])
  have o6 := o (stp m6 (stp m5 (stp m4 (stp m3 (stp m2 (stp m1 a)))))) (by simp [f1])
  have o7 := o (stp m7 (stp m6 (stp m5 (stp m4 (stp m3 (stp m2 (stp m1 a))))))) (by simp [f1])
  have ch := Ch.more (w := w) h9 o9 (.more h8 o8 (.more h7 o7 (.more h6 o6 (.more h5 o5 (.more h4 o4 (.more h3 o3 (.more h2 o2 (.one h1 ha o1))))))))
  exact ch.calm o9 c
end UC
set_option Elab.async false
set_option linter.all false
set_option maxRecDepth 100000
set_option maxHeartbeats 8000000
set_option pp.maxSteps 400
/-! The law. -/
namespace UC
open PySem PySem.Spec PyProof.Rows L2
section
variable {P : Program} {w : World} {K : PySem.W.Frag} {mg : Str → Option Value} {base : Heap}
def spLaw (K : PySem.W.Frag) : Sp := fun vs H Q _ => ∃ (a : Addr) (ns : List Int), vs = [.ref a] ∧ SqL K H a (ns.map V.int) ∧ ∀ H', Q (.bl true) H'
theorem sc_law : FnScope ["_law_script", "_law_pool_here", "_law_turn", "_law_spec_here", "_law_lot", "_law_joining_here", "_law_several", "_law_letters_here", "_law_house", "_law_rows", "_law_got", "_law_place", "_law_other", "_law_again", "_law_kind_here"] ["_law_script"] (defScope s_law) := ⟨rfl, rfl, rfl, by decide +kernel, rfl, by decide +kernel, by decide +kernel⟩
theorem fn_of {x : Str} {st : Stmt} {N ps : List Str} {k : Nat} {sp : Sp} {fd : FuncData} (F : FnP K x x st (He.ga K x) fd) (S : FnScope N ps (defScope st)) (len : ∀ vs H Q E, sp vs H Q E → vs.length = ps.length)
    (body : ∀ (f : Addr) (cdv : Value) (A : Around) (outer : List Env) (s : Shared) (H : Hp) (vs : List V) (Q : VK) (E : XK), Room k (A.deeper (envOfC x (defScope st) s.heap.objs.size f cdv)) → sp vs H Q E →
      ∃ t, PSs (cxOf CX0 P w K mg base N x (defScope st) f cdv A outer s H E).nox (defBody st) t ∧ t { nx := fun _ H' => Q .non H', rt := Q } (start N vs) H) : FnOk P w K mg base CX0 (k + 1) (He.ga K x) fd ps sp :=
  FunD.ok F S len fun cdv A outer s H vs Q E hr h => by
    obtain ⟨t, h1, h2⟩ := body _ cdv A outer s H vs Q E hr h
    exact ⟨t, h1.nox, h2⟩
theorem ok_law (T : Txt K mg) {fd : FuncData} (F : FnP K "law" "law" s_law (He.ga K "law") fd) : FnOk P w K mg base CX0 14 (He.ga K "law") fd ["_law_script"] (spLaw K) := by
  have G_law_pool : Pr P w K mg base 1 "_law_pool" _ _ := ok_law_pool T
  have G_law_draw : Pr P w K mg base 1 "_law_draw" _ _ := ok_law_draw T
  have G_law_great_right : Pr P w K mg base 13 "_law_great_right" _ _ := ok_law_great T
  have G_law_spec : Pr P w K mg base 3 "_law_spec" _ _ := ok_law_spec T
  have G_law_joining : Pr P w K mg base 3 "_law_joining" _ _ := ok_law_joining T
  have G_law_numbers : Pr P w K mg base 1 "_law_numbers" _ _ := ok_law_numbers T
  have G_law_multiples : Pr P w K mg base 1 "_law_multiples" _ _ := ok_law_multiples T
  have G_law_letters : Pr P w K mg base 2 "_law_letters" _ _ := ok_law_letters T
  have G_law_turned : Pr P w K mg base 2 "_law_turned" _ _ := ok_law_turned T
  have G_law_kind : Pr P w K mg base 12 "_law_kind" _ _ := ok_law_kind T 10 (by decide)
  have G_law_one_right : Pr P w K mg base 11 "_law_one_right" _ _ := ok_law_one_right T
  have G_law_against_right : Pr P w K mg base 13 "_law_against_right" _ _ := ok_law_against T
  have G_Lot_init : PrM P w K mg base 4 "Lot" "__init__" _ _ := ok_Lot_init T
  have G_House_init : PrM P w K mg base 4 "House" "__init__" _ _ := ok_House_init T
  refine fn_of F sc_law (fun vs H Q E h => ?_) (fun f cdv A outer s H vs Q E hr h => ?_)
  · obtain ⟨a, ns, rfl, _⟩ := h
    rfl
  · obtain ⟨a, ns, rfl, ha, q⟩ := h
    refine ⟨_, (pss_cons (ps_s 1 sc_law.nd (pe_callP G_law_pool hr (by decide) (pa_cons (pv 0) pa_nil)))
    (pss_cons (ps_if (PW.pt (pw_and (pt_cmpR op_eq (pe_callP G_law_draw hr (by decide) (pa_cons (pv 1) (pa_cons pe_int pa_nil))) pe_int (nomark _)) (pw_and1 (pt_not (pt_val (pe_callP G_law_great_right hr (by decide) (pa_cons (pv 1) pa_nil)))))))
      (pss_one (ps_ret pe_bl))
      pss_nil)
    (pss_cons (ps_for PassesOwn.never rfl (pi_range1 rfl T.b_range (pa_cons pe_int pa_nil)) (pg_n 2 sc_law.nd)
      (pss_cons (ps_s 3 sc_law.nd (pe_callP G_law_spec hr (by decide) (pa_cons (pv 1) (pa_cons pe_int pa_nil))))
      (pss_cons (ps_s 4 sc_law.nd (pe_makeP G_Lot_init T.m_Lot T.g_Lot hr (by decide) (pa_cons (pe_ix ix_tup (pv 3) pe_int (fun _ _ => rfl)) (pa_cons (pe_ix ix_tup (pv 3) pe_int (fun _ _ => rfl)) pa_nil))))
      (pss_cons (ps_s 5 sc_law.nd (pe_callP G_law_joining hr (by decide) (pa_cons (pv 1) pa_nil)))
      (pss_cons (ps_s 6 sc_law.nd (pe_callP G_law_multiples hr (by decide) (pa_cons (pv 5) (pa_cons (pe_callP G_law_numbers hr (by decide) (pa_cons (pv 3) (pa_cons pe_int pa_nil))) pa_nil))))
      (pss_cons (ps_s 7 sc_law.nd (pe_callP G_law_letters hr (by decide) (pa_cons (pv 1) (pa_cons (pv 5) (pa_cons (pv 6) (pa_cons (pe_op op_add pe_int (pe_callP G_law_draw hr (by decide) (pa_cons (pv 1) (pa_cons pe_int pa_nil)))) pa_nil))))))
      (pss_cons (ps_s 8 sc_law.nd (pe_makeP G_House_init T.m_House T.g_House hr (by decide) (pa_cons (pv 4) (pa_cons (pv 5) (pa_cons (pv 7) pa_nil)))))
      (pss_cons (ps_asg (pe_callP G_law_turned hr (by decide) (pa_cons (pv 1) (pa_cons (pv 5) (pa_cons (pv 7) pa_nil)))) (pg_tup rfl (pgs_cons (pg_n 9 sc_law.nd) (pgs_cons (pg_n 10 sc_law.nd) (pgs_cons (pg_n 11 sc_law.nd) pgs_nil)))))
      (pss_cons (ps_s 12 sc_law.nd (pe_makeP G_House_init T.m_House T.g_House hr (by decide) (pa_cons (pv 4) (pa_cons (pv 9) (pa_cons (pv 10) pa_nil)))))
      (pss_cons (ps_for PassesOwn.never rfl (pi_range1 rfl T.b_range (pa_cons pe_int pa_nil)) (pg_n 13 sc_law.nd)
        (pss_cons (ps_s 14 sc_law.nd (pe_callP G_law_kind hr (by decide) (pa_cons (pv 1) (pa_cons pe_int (pa_cons pe_int pa_nil)))))
        (pss_one (ps_if (pt_not (pt_val (pe_callP G_law_one_right hr (by decide) (pa_cons (pv 1) (pa_cons (pv 8) (pa_cons (pv 5) (pa_cons (pv 7) (pa_cons (pv 6) (pa_cons (pv 14) (pa_cons (pv 12) (pa_cons (pv 11) pa_nil)))))))))))
          (pss_one (ps_ret pe_bl))
          pss_nil))))
      (pss_one (ps_for PassesOwn.never rfl (pi_range1 rfl T.b_range (pa_cons pe_int pa_nil)) (pg_n 13 sc_law.nd)
        (pss_one (ps_if (pt_not (pt_val (pe_callP G_law_against_right hr (by decide) (pa_cons (pv 1) (pa_cons (pv 4) (pa_cons (pv 3) (pa_cons (pv 8) (pa_cons (pv 5) (pa_cons (pv 7) pa_nil)))))))))
          (pss_one (ps_ret pe_bl))
          pss_nil))))))))))))))
    (pss_one (ps_ret pe_bl))))), ?_⟩
    simp only [st_c, st_n, st_0]
    refine ⟨_, rfl, a, ns, rfl, ha, fun H1 d s1 hp => ?_⟩
    refine ⟨_, rfl, d, 16, rfl, hp, by decide, by decide, fun r1 hr1 => ⟨rfl, _, rfl, ?_⟩⟩
    rw [dec_int]
    by_cases c0 : (r1 : Int) = 0
    · rw [show ((r1 : Int) == 0) = true from beq_iff_eq.mpr c0]
      refine iteT ?_
      refine ⟨_, rfl, d, rfl, hp, fun H2 s2 => ⟨true, rfl, iteF ?_⟩⟩
      have hp2 := hp.same s2
      refine ⟨3, rfl, by decide, by decide, ?_⟩
      refine for_range (lo := 0) (n := 3) (fun i σ HA => ∃ v2 v3 v4 v5 v6 v7 v8 v9 v10 v11 v12 v13 v14, σ = [some (.ref a), some (.ref d), v2, v3, v4, v5, v6, v7, v8, v9, v10, v11, v12, v13, v14] ∧ PoolAt HA d) ⟨_, _, _, _, _, _, _, _, _, _, _, _, _, rfl, hp2⟩ ?_ ?_
      · rintro i σ HA hi ⟨v2, v3, v4, v5, v6, v7, v8, v9, v10, v11, v12, v13, v14, rfl, hpA⟩
        refine ⟨_, rfl, d, rfl, hpA, fun HB sp z ms sB hsp sok => ?_⟩
        obtain ⟨mk, hs1, hs2⟩ := id hsp
        refine ⟨_, rfl, _, _, _, _, rfl, rfl, SqT.of hs1, rfl, _, rfl, _, _, _, _, rfl, rfl, SqT.of hs1, rfl, ?_⟩
        intro lp ld hlp hld nld
        have sM := same_make (o := .own lp) (u := .ins (He.ga K "Lot") ld []) hlp hld nld
        refine ⟨lp, mk, ld, z, ms, rfl, upd_same, sM _ _ hs2, sok.ok, Nat.le_trans sok.len (by decide), fun HC lns sxC hLC okC subC => ⟨rfl, ?_⟩⟩
        have sC0 := sameX_make hlp hld nld sxC
        have sC := sB.trans sC0
        have hspC := hsp.same sC0
        refine ⟨_, rfl, d, rfl, hpA.same sC, fun HD ja J sD tD M lenJ => ?_⟩
        have sAD := sC.trans sD
        refine ⟨_, rfl, _, rfl, sp, z, ms, rfl, hspC.same sD, sok, fun HE q1 L sE hL nok => ?_⟩
        refine ⟨ja, q1, J, L, rfl, tD.same sE, M, lenJ, hL, nok.ne, nok.le, fun HF sa S sF tS sev => ?_⟩
        have sAF := sAD.trans (sE.trans sF)
        have tF := tD.same (sE.trans sF)
        refine ⟨_, rfl, _, rfl, _, rfl, _, rfl, d, 3, rfl, hpA.same sAF, by decide, by decide, fun r2 hr2 => ⟨_, _, rfl, rfl, ?_⟩⟩
        refine ⟨d, ja, sa, J, S, L, 1 + r2, rfl, hpA.same sAF, tF, M, lenJ, tS, sev, by omega, fun HG ld2 lo sG hLet lok cl => ?_⟩
        have sAG := sAF.trans sG
        have sCG := (sD.trans (sE.trans sF)).trans sG
        have lawk := law_of (ks := List.range (1 + r2)) M lenJ sev nok subC sok.le cl
        refine ⟨_, rfl, _, rfl, _, rfl, ?_⟩
        intro hp1 hd1 hh1 hh2 hh3
        have sN := same_make (o := .own hp1) (u := .ins (He.ga K "House") hd1 []) hh1 hh2 hh3
        refine ⟨hp1, lp, ja, ld2, hd1, z, lns, J, List.range (1 + r2), lo, rfl, upd_same, (hLC.same sCG).same sN, okC, (tF.same sG).same sN, M, by omega, hLet.same sN, lok, by rw [List.length_range]; omega, lawk, fun HH sxH hHH => ⟨rfl, ?_⟩⟩
        have sH := sameX_make hh1 hh2 hh3 sxH
        have sAH := sAG.trans sH
        have tH := (tF.same sG).same sH
        have hLetH := hLet.same sH
        refine ⟨_, rfl, _, rfl, _, rfl, d, ja, ld2, J, 1 + r2, lo, rfl, hpA.same sAH, tH, M, lenJ, hLetH, lok, by omega, fun HI tp rt gd pl O P sI htp R tR hLg hpl => ?_⟩
        refine ⟨tp, _, rfl, SqT.of htp, rfl, _, _, rfl, _, _, rfl, _, _, rfl, rfl, ?_⟩
        have sAI := sAH.trans sI
        have sCI := (sCG.trans sH).trans sI
        refine ⟨_, rfl, _, rfl, _, rfl, ?_⟩
        intro hp2 hd2 hk1 hk2 hk3
        have sN2 := same_make (o := .own hp2) (u := .ins (He.ga K "House") hd2 []) hk1 hk2 hk3
        have M2 := renum_mon M R
        have ok2 := loP_ok (O := O) lok
        refine ⟨hp2, lp, rt, gd, hd2, z, lns, tab J.length (rnF J O P), List.range (1 + r2), loP J.length O lo, rfl, upd_same, (hLC.same sCI).same sN2, okC, tR.same sN2, M2, by rw [tab_len]; omega, hLg.same sN2, by rw [tab_len]; exact ok2, by rw [List.length_range]; omega, law_renum M R lawk, fun HJ sxJ hHJ => ⟨rfl, ?_⟩⟩
        have sJ := sameX_make hk1 hk2 hk3 sxJ
        have sAJ := sAI.trans sJ
        have sHJ := sI.trans sJ
        have hs1J : HsAt K HJ hp1 lp ja ld2 J (1 + r2) lo := ⟨hHH.same sHJ, tH.same sHJ, hLetH.same sHJ, lok, M⟩
        have tSJ := tS.same ((sG.trans sH).trans sHJ)
        have hplJ := sJ _ _ hpl
        have hLJ := hLC.same (sCI.trans sJ)
        have hspJ := hspC.same (sCI.trans sJ)
        have hpJ := hpA.same sAJ
        refine ⟨5, rfl, by decide, by decide, ?_⟩
        refine for_range (lo := 0) (n := 5) (fun j σ HK => ∃ v13 v14, σ = [some (.ref a), some (.ref d), some (.int (0 + (i : Int))), some (.ref sp), some (.ref lp), some (.ref ja), some (.ref sa), some (.ref ld2), some (.ref hp1), some (.ref rt), some (.ref gd), some (.ref pl), some (.ref hp2), v13, v14] ∧ Same HJ HK) ⟨_, _, rfl, Same.refl _⟩ ?_ ?_
        · rintro j σ HK hj ⟨v13, v14, rfl, sK⟩
          refine ⟨_, rfl, d, 10, 4, rfl, hpJ.same sK, by decide, by decide, by decide, by decide, fun HL v k sL hk ksz klt => ?_⟩
          have sKL := sK.trans sL
          refine ⟨_, rfl, _, rfl, _, rfl, _, rfl, _, rfl, _, rfl, _, rfl, _, rfl, d, hp1, lp, ja, ld2, sa, hp2, lp, pl, J, S, L, 1 + r2, lo, O, P, k, v, rfl, hs1J.same sKL, lenJ, tSJ.same sKL, sev, cl, hk, Kd.lets_le (by decide) klt, ksz, calm10 w ksz klt, R, hHJ.same sKL, sKL _ _ hplJ, fun HM sM => ⟨true, rfl, iteF ?_⟩⟩
          exact ⟨_, _, rfl, sKL.trans sM⟩
        · rintro σ HK ⟨v13, v14, rfl, sK⟩
          refine ⟨3, rfl, by decide, by decide, ?_⟩
          refine for_range (lo := 0) (n := 3) (fun j σ HL => ∃ v13, σ = [some (.ref a), some (.ref d), some (.int (0 + (i : Int))), some (.ref sp), some (.ref lp), some (.ref ja), some (.ref sa), some (.ref ld2), some (.ref hp1), some (.ref rt), some (.ref gd), some (.ref pl), some (.ref hp2), v13, v14] ∧ Same HJ HL) ⟨_, rfl, sK⟩ ?_ ?_
          · rintro j σ HL hj ⟨v13, rfl, sL⟩
            refine ⟨_, rfl, _, rfl, _, rfl, _, rfl, _, rfl, _, rfl, d, lp, sp, hp1, ja, ld2, J, 1 + r2, lo, z, ms, lns, rfl, hpJ.same sL, hLJ.same sL, okC, hspJ.same sL, hs1J.same sL, lenJ, fun HM sM => ⟨true, rfl, iteF ?_⟩⟩
            exact ⟨_, rfl, sL.trans sM⟩
          · rintro σ HL ⟨v13, rfl, sL⟩
            exact ⟨_, _, _, _, _, _, _, _, _, _, _, _, _, rfl, hpJ.same sL⟩
      · rintro σ HA ⟨v2, v3, v4, v5, v6, v7, v8, v9, v10, v11, v12, v13, v14, rfl, _⟩
        exact q HA
    · rw [show ((r1 : Int) == 0) = false from beq_eq_false_iff_ne.mpr c0]
      refine iteF ?_
      refine ⟨3, rfl, by decide, by decide, ?_⟩
      refine for_range (lo := 0) (n := 3) (fun i σ HA => ∃ v2 v3 v4 v5 v6 v7 v8 v9 v10 v11 v12 v13 v14, σ = [some (.ref a), some (.ref d), v2, v3, v4, v5, v6, v7, v8, v9, v10, v11, v12, v13, v14] ∧ PoolAt HA d) ⟨_, _, _, _, _, _, _, _, _, _, _, _, _, rfl, hp⟩ ?_ ?_
      · rintro i σ HA hi ⟨v2, v3, v4, v5, v6, v7, v8, v9, v10, v11, v12, v13, v14, rfl, hpA⟩
        refine ⟨_, rfl, d, rfl, hpA, fun HB sp z ms sB hsp sok => ?_⟩
        obtain ⟨mk, hs1, hs2⟩ := id hsp
        refine ⟨_, rfl, _, _, _, _, rfl, rfl, SqT.of hs1, rfl, _, rfl, _, _, _, _, rfl, rfl, SqT.of hs1, rfl, ?_⟩
        intro lp ld hlp hld nld
        have sM := same_make (o := .own lp) (u := .ins (He.ga K "Lot") ld []) hlp hld nld
        refine ⟨lp, mk, ld, z, ms, rfl, upd_same, sM _ _ hs2, sok.ok, Nat.le_trans sok.len (by decide), fun HC lns sxC hLC okC subC => ⟨rfl, ?_⟩⟩
        have sC0 := sameX_make hlp hld nld sxC
        have sC := sB.trans sC0
        have hspC := hsp.same sC0
        refine ⟨_, rfl, d, rfl, hpA.same sC, fun HD ja J sD tD M lenJ => ?_⟩
        have sAD := sC.trans sD
        refine ⟨_, rfl, _, rfl, sp, z, ms, rfl, hspC.same sD, sok, fun HE q1 L sE hL nok => ?_⟩
        refine ⟨ja, q1, J, L, rfl, tD.same sE, M, lenJ, hL, nok.ne, nok.le, fun HF sa S sF tS sev => ?_⟩
        have sAF := sAD.trans (sE.trans sF)
        have tF := tD.same (sE.trans sF)
        refine ⟨_, rfl, _, rfl, _, rfl, _, rfl, d, 3, rfl, hpA.same sAF, by decide, by decide, fun r2 hr2 => ⟨_, _, rfl, rfl, ?_⟩⟩
        refine ⟨d, ja, sa, J, S, L, 1 + r2, rfl, hpA.same sAF, tF, M, lenJ, tS, sev, by omega, fun HG ld2 lo sG hLet lok cl => ?_⟩
        have sAG := sAF.trans sG
        have sCG := (sD.trans (sE.trans sF)).trans sG
        have lawk := law_of (ks := List.range (1 + r2)) M lenJ sev nok subC sok.le cl
        refine ⟨_, rfl, _, rfl, _, rfl, ?_⟩
        intro hp1 hd1 hh1 hh2 hh3
        have sN := same_make (o := .own hp1) (u := .ins (He.ga K "House") hd1 []) hh1 hh2 hh3
        refine ⟨hp1, lp, ja, ld2, hd1, z, lns, J, List.range (1 + r2), lo, rfl, upd_same, (hLC.same sCG).same sN, okC, (tF.same sG).same sN, M, by omega, hLet.same sN, lok, by rw [List.length_range]; omega, lawk, fun HH sxH hHH => ⟨rfl, ?_⟩⟩
        have sH := sameX_make hh1 hh2 hh3 sxH
        have sAH := sAG.trans sH
        have tH := (tF.same sG).same sH
        have hLetH := hLet.same sH
        refine ⟨_, rfl, _, rfl, _, rfl, d, ja, ld2, J, 1 + r2, lo, rfl, hpA.same sAH, tH, M, lenJ, hLetH, lok, by omega, fun HI tp rt gd pl O P sI htp R tR hLg hpl => ?_⟩
        refine ⟨tp, _, rfl, SqT.of htp, rfl, _, _, rfl, _, _, rfl, _, _, rfl, rfl, ?_⟩
        have sAI := sAH.trans sI
        have sCI := (sCG.trans sH).trans sI
        refine ⟨_, rfl, _, rfl, _, rfl, ?_⟩
        intro hp2 hd2 hk1 hk2 hk3
        have sN2 := same_make (o := .own hp2) (u := .ins (He.ga K "House") hd2 []) hk1 hk2 hk3
        have M2 := renum_mon M R
        have ok2 := loP_ok (O := O) lok
        refine ⟨hp2, lp, rt, gd, hd2, z, lns, tab J.length (rnF J O P), List.range (1 + r2), loP J.length O lo, rfl, upd_same, (hLC.same sCI).same sN2, okC, tR.same sN2, M2, by rw [tab_len]; omega, hLg.same sN2, by rw [tab_len]; exact ok2, by rw [List.length_range]; omega, law_renum M R lawk, fun HJ sxJ hHJ => ⟨rfl, ?_⟩⟩
        have sJ := sameX_make hk1 hk2 hk3 sxJ
        have sAJ := sAI.trans sJ
        have sHJ := sI.trans sJ
        have hs1J : HsAt K HJ hp1 lp ja ld2 J (1 + r2) lo := ⟨hHH.same sHJ, tH.same sHJ, hLetH.same sHJ, lok, M⟩
        have tSJ := tS.same ((sG.trans sH).trans sHJ)
        have hplJ := sJ _ _ hpl
        have hLJ := hLC.same (sCI.trans sJ)
        have hspJ := hspC.same (sCI.trans sJ)
        have hpJ := hpA.same sAJ
        refine ⟨5, rfl, by decide, by decide, ?_⟩
        refine for_range (lo := 0) (n := 5) (fun j σ HK => ∃ v13 v14, σ = [some (.ref a), some (.ref d), some (.int (0 + (i : Int))), some (.ref sp), some (.ref lp), some (.ref ja), some (.ref sa), some (.ref ld2), some (.ref hp1), some (.ref rt), some (.ref gd), some (.ref pl), some (.ref hp2), v13, v14] ∧ Same HJ HK) ⟨_, _, rfl, Same.refl _⟩ ?_ ?_
        · rintro j σ HK hj ⟨v13, v14, rfl, sK⟩
          refine ⟨_, rfl, d, 10, 4, rfl, hpJ.same sK, by decide, by decide, by decide, by decide, fun HL v k sL hk ksz klt => ?_⟩
          have sKL := sK.trans sL
          refine ⟨_, rfl, _, rfl, _, rfl, _, rfl, _, rfl, _, rfl, _, rfl, _, rfl, d, hp1, lp, ja, ld2, sa, hp2, lp, pl, J, S, L, 1 + r2, lo, O, P, k, v, rfl, hs1J.same sKL, lenJ, tSJ.same sKL, sev, cl, hk, Kd.lets_le (by decide) klt, ksz, calm10 w ksz klt, R, hHJ.same sKL, sKL _ _ hplJ, fun HM sM => ⟨true, rfl, iteF ?_⟩⟩
          exact ⟨_, _, rfl, sKL.trans sM⟩
        · rintro σ HK ⟨v13, v14, rfl, sK⟩
          refine ⟨3, rfl, by decide, by decide, ?_⟩
          refine for_range (lo := 0) (n := 3) (fun j σ HL => ∃ v13, σ = [some (.ref a), some (.ref d), some (.int (0 + (i : Int))), some (.ref sp), some (.ref lp), some (.ref ja), some (.ref sa), some (.ref ld2), some (.ref hp1), some (.ref rt), some (.ref gd), some (.ref pl), some (.ref hp2), v13, v14] ∧ Same HJ HL) ⟨_, rfl, sK⟩ ?_ ?_
          · rintro j σ HL hj ⟨v13, rfl, sL⟩
            refine ⟨_, rfl, _, rfl, _, rfl, _, rfl, _, rfl, _, rfl, d, lp, sp, hp1, ja, ld2, J, 1 + r2, lo, z, ms, lns, rfl, hpJ.same sL, hLJ.same sL, okC, hspJ.same sL, hs1J.same sL, lenJ, fun HM sM => ⟨true, rfl, iteF ?_⟩⟩
            exact ⟨_, rfl, sL.trans sM⟩
          · rintro σ HL ⟨v13, rfl, sL⟩
            exact ⟨_, _, _, _, _, _, _, _, _, _, _, _, _, rfl, hpJ.same sL⟩
      · rintro σ HA ⟨v2, v3, v4, v5, v6, v7, v8, v9, v10, v11, v12, v13, v14, rfl, _⟩
        exact q HA
end
end UC
set_option Elab.async false
set_option linter.all false
set_option maxRecDepth 100000
set_option maxHeartbeats 0
/-! The law holds. -/
namespace UC
open PySem PySem.Spec PyProof.Rows L2
theorem law_facts {P : Program} {w : World} {K : PySem.W.Frag} {h h0 : Heap} {mg : Str → Option Value} {f : Addr} (X : K.In h) (G : h.Ns mainGlobals mg) (hfa : mg ("law" : Str) = some (.ref f)) (c : He.SaysX fa fn [] [] exB w h0 K) :
    ∃ fd : FuncData, (∀ (s : Shared) (v : Value), BindsTo s fd ⟨[v], []⟩ [("_law_script", v)]) ∧ ∀ base : Heap, K.In base → base.Ns mainGlobals mg → FnOk P w K mg base CX0 14 f fd ["_law_script"] (spLaw K) := by
  have T := txt_of X G c
  obtain ⟨fd, F⟩ := T.d_law.ex
  have e := hfa.symm.trans T.d_law.gm
  cases e
  have b := FunD.bindsA (ps := ["_law_script"]) F fun _ _ _ _ _ _ us hl => match us, hl with | [_], _ => rfl
  exact ⟨fd, fun s v => b s [v] rfl, fun base _ _ => ok_law T F⟩
end UC
open PySem PySem.W PySem.Calls PyProof.Rows
theorem PySem.Challenge.cw_usecounts_k31_whole_kinds_that_stands_ha_holds : PySem.Challenge.rw_usecounts_k31_whole_kinds_that_stands_ha.Holds := by
  w_on; o_law
  refine HandSHeadRun.head_any (r := OpenLaw.row PySem.Challenge.rw_usecounts_k31_whole_kinds_that_stands_ha) (q := view (OpenLaw.row PySem.Challenge.rw_usecounts_k31_whole_kinds_that_stands_ha).prog [81]) (H := UC.hk) (ob := UC.ob) (M := 6000) (loose := UC.names) (d := HandSHeadRun.topDef (OpenLaw.row PySem.Challenge.rw_usecounts_k31_whole_kinds_that_stands_ha).prog 81) (kwd := []) UC.ob_eq
    (by kernel_rfl) (fun s => by kernel_rfl) UC.run (by kernel_rfl) (by kernel_rfl) (by kernel_rfl) (by rfl) (by first | assumption | decide +kernel) (by decide +kernel) ⟨rfl, rfl, rfl, rfl, rfl, by decide +kernel⟩ ?hw ?hc
  case hw => w_witness2
  case hc =>
    refine L2.walk_ofE (l := PySem.Challenge.rw_usecounts_k31_whole_kinds_that_stands_ha) (n := 63) (k := 14) (x := "_law_script") (CX := L2.CX0) rfl (by decide) (by kernel_rfl) ⟨rfl, by decide, by decide⟩ ?F (fun _ _ _ _ z => z)
    intro w mg fa h Y G hmg0
    obtain ⟨K, KX, c⟩ := Y
    have hmg : mg ("law" : PySem.Str) = some (.ref fa) := by
      have e : (HandSHeadRun.topDef (OpenLaw.row PySem.Challenge.rw_usecounts_k31_whole_kinds_that_stands_ha).prog 81).name = ("law" : PySem.Str) := by kernel_rfl
      rw [← e]
      exact hmg0
    obtain ⟨fd, hb, hF⟩ := UC.law_facts (P := (PySem.Challenge.rw_usecounts_k31_whole_kinds_that_stands_ha).prog) (w := w) KX G hmg c
    exact ⟨K, fd, UC.spLaw K, KX, hb, fun H a ns hl _ hS => ⟨a, ns, rfl, hS, fun _ => rfl⟩, hF⟩
