/- Parts of the proof of the law TopEnded: characters, lines and the maker of a Stomach: B3. Conditions: none. -/
import Derived.Test.YtmmgkehhckhdcaaGreatDoorB2

set_option linter.unusedVariables false
set_option linter.unusedSimpArgs false

namespace Go.Proofs.Gn
open Go Go.Proofs Go.Abs Gt
noncomputable section

theorem primV_ok {E0 : List (Value × Value)} {p : Value × Value} (h : EntryOk E0 p) (σ : Nat → Option Nat) : renV σ (primV p.1) = some (primV p.1) := by
  obtain ⟨c, l, h1⟩ := h.key
  rw [h1]; exact plain_prim _ σ

theorem keyEq_sym {a b : List UInt8} : beqBytes a b = beqBytes b a := by
  induction a generalizing b with
  | nil => cases b <;> rfl
  | cons x a ih =>
    cases b with
    | nil => rfl
    | cons y b =>
      simp only [beqBytes]
      rw [ih]
      have : Nat.beq x.toNat y.toNat = Nat.beq y.toNat x.toNat := by
        rw [Bool.eq_iff_iff, Nat.beq_eq, Nat.beq_eq]; exact eq_comm
      rw [this]

/-- The walk: every entry is put, in whatever order. -/
theorem walk (K : ProgOk P) {Q : AM → Prop} {st : Int} {E0 : List (Value × Value)} (h0 : PlainEs E0) : ∀ (n : Nat) (left add : List (Value × Value)) (ver : Nat), left.length = n →
    (∀ p ∈ left, EntryOk E0 p) → PlainEs left → left.Pairwise (fun a b => keyEq a.1 b.1 = some false ∧ keyEq b.1 a.1 = some false) → PlainEs add →
    (∀ p ∈ left, ∀ e ∈ add, keyEq p.1 e.1 = some false) → E0.length + add.length + left.length < 2000 →
    (∀ add' ver', ver' = ver + n → add'.Perm (add ++ left.filterMap (newE E0)) → PlainEs add' → Goes P (LE st (E0 ++ add') ver') Q) → Goes P (LH st left (E0 ++ add) ver) Q := by
  intro n
  induction n with
  | zero =>
    intro left add ver hn hk hpl hpw hpa hd hlen hQ
    have hnil : left = [] := List.length_eq_zero_iff.1 hn
    subst hnil
    obtain ⟨L, hL⟩ := ob10 (st := st) (rest := []) (es := E0 ++ add) (ver := ver)
    refine Goes.nextAny atH evH ob11 hL (fun _ => ⟨_, finE, e1 (fun p hp => ?_) (hQ add ver rfl (by simp) hpa)⟩) (fun a k v b hab => by simp at hab)
    rcases List.mem_append.1 hp with hp | hp
    · exact h0 p hp
    · exact hpa p hp
  | succ n ih =>
    intro left add ver hn hk hpl hpw hpa hd hlen hQ
    obtain ⟨L, hL⟩ := ob10 (st := st) (rest := left) (es := E0 ++ add) (ver := ver)
    refine Goes.nextAny atH evH ob11 hL (fun hl => by subst hl; simp at hn) (fun a k v b hab => ?_)
    have hm : (k, v) ∈ left := by rw [hab]; simp
    have hE := hk _ hm
    obtain ⟨c, l, hkc⟩ := hE.key
    simp only at hkc
    subst hkc
    refine ⟨rfl, _, finB, ?_⟩
    have hplE : PlainEs (E0 ++ add) := by
      intro p hp
      rcases List.mem_append.1 hp with hp | hp
      · exact h0 p hp
      · exact hpa p hp
    have hsub : ∀ p, p ∈ a ++ b → p ∈ left := by
      intro p hp
      rw [hab]
      rcases List.mem_append.1 hp with hp | hp
      · exact List.mem_append_left _ hp
      · exact List.mem_append_right _ (List.mem_cons_of_mem _ hp)
    have hplr : PlainEs (a ++ b) := fun p hp => hpl p (hsub p hp)
    have hpw' : (a ++ b).Pairwise (fun a b => keyEq a.1 b.1 = some false ∧ keyEq b.1 a.1 = some false) := by
      rw [hab] at hpw
      exact hpw.sublist ((List.Sublist.refl a).append (List.sublist_cons_self _ b))
    have hpwk : ∀ p ∈ a ++ b, keyEq p.1 (.string ⟨⟨c :: l⟩⟩) = some false := by
      intro p hp
      rw [hab, List.pairwise_append] at hpw
      obtain ⟨_, h2, h3⟩ := hpw
      rcases List.mem_append.1 hp with hp | hp
      · exact (h3 p hp _ List.mem_cons_self).1
      · exact ((List.pairwise_cons.1 h2).1 p hp).2
    have hlab : left.length = a.length + b.length + 1 := by rw [hab]; simp; omega
    have hpm : left.Perm ((.string ⟨⟨c :: l⟩⟩, v) :: (a ++ b)) := by rw [hab]; exact List.perm_middle
    refine b12 K (b23 K ?_)
    cases hdp : dup E0 (.string ⟨⟨c :: l⟩⟩) with
    | true =>
      obtain ⟨o1, o2⟩ := hE.old hdp
      refine c34 K (findE_app o1) (c45 K (putE_app o1 o2) (c5 hplE hplr ?_))
      refine ih (a ++ b) add (Nat.succ ver) (by simp; omega) (fun p hp => hk p (hsub p hp)) hplr hpw' hpa (fun p hp => hd p (hsub p hp)) (by simp; omega) (fun add' ver' hv hp hpl' => hQ add' ver' (by omega) (hp.trans ?_) hpl')
      refine List.Perm.append_left _ ?_
      have := (hpm.filterMap (newE E0)).symm
      rw [List.filterMap_cons] at this
      simpa only [newE, hdp, cond_true] using this
    | false =>
      have hnew : ∀ e ∈ E0 ++ add, keyEq (.string ⟨⟨c :: l⟩⟩) e.1 = some false := by
        intro e he
        rcases List.mem_append.1 he with he | he
        · exact hE.new hdp e he
        · exact hd _ hm e he
      refine b34 K (findE_no hnew) (b45 K ?_ (b56 K (putE_no hnew) (b6 K hplE hplr ?_)))
      · intro hh
        have : (E0 ++ add).length = 2000 := Int.ofNat.inj hh
        simp at this
        omega
      rw [List.append_assoc]
      have hpa' : PlainEs (add ++ [(Value.string ⟨⟨c :: l⟩⟩, prim (c :: l))]) := by
        intro p hp
        rcases List.mem_append.1 hp with hp | hp
        · exact hpa p hp
        · rw [List.mem_singleton] at hp; subst hp; exact plain_prim _
      refine ih (a ++ b) (add ++ [(.string ⟨⟨c :: l⟩⟩, prim (c :: l))]) (Nat.succ ver) (by simp; omega) (fun p hp => hk p (hsub p hp)) hplr hpw' hpa' (fun p hp e he => ?_) (by simp; omega) (fun add' ver' hv hp hpl' => hQ add' ver' (by omega) (hp.trans ?_) hpl')
      · rcases List.mem_append.1 he with he | he
        · exact hd p (hsub p hp) e he
        · rw [List.mem_singleton] at he; subst he; exact hpwk p hp
      · rw [List.append_assoc]
        refine List.Perm.append_left _ ?_
        have := (hpm.filterMap (newE E0)).symm
        rw [List.filterMap_cons] at this
        simpa only [newE, hdp, cond_false, List.singleton_append, primV] using this
end
end Go.Proofs.Gn

namespace Go.Proofs.Gn
open Go Go.Proofs Go.Abs Gt
set_option maxRecDepth 1000000
noncomputable section

def L0 : List (Value × Value) := match nwob15 with | .mapIter _ _ l _ => l | _ => []
def E0 : List (Value × Value) := match nwob8 with | .map l _ => l | _ => []
def ES : List (Value × Value) := match nxob16 with | .map l _ => l | _ => []

def plainB : Value → Bool
  | .func (.func _) ⟨[]⟩ ⟨[]⟩ => true
  | .agg ⟨[.int _ _, .int _ _, .int _ _, .int _ _, .string _]⟩ => true
  | _ => false

theorem plainB_ok {v : Value} (h : plainB v = true) (σ : Nat → Option Nat) : renV σ v = some v := by
  unfold plainB at h
  split at h
  · rfl
  · rfl
  · cases h

def plainEsB : List (Value × Value) → Bool
  | [] => true
  | p :: l => plainB p.2 && plainEsB l

theorem plainEsB_ok : ∀ {l : List (Value × Value)}, plainEsB l = true → PlainEs l
  | [], _ => fun p hp => by cases hp
  | q :: l, h => by
    simp only [plainEsB, Bool.and_eq_true] at h
    intro p hp σ
    rcases List.mem_cons.1 hp with rfl | hp
    · exact plainB_ok h.1 σ
    · exact plainEsB_ok h.2 p hp σ

def isFalse : Option Bool → Bool
  | some false => true
  | _ => false

theorem isFalse_ok {o : Option Bool} (h : isFalse o = true) : o = some false := by
  unfold isFalse at h
  split at h
  · rfl
  · cases h

def offB (k : Value) : List (Value × Value) → Bool
  | [] => true
  | p :: l => isFalse (keyEq k p.1) && (isFalse (keyEq p.1 k) && offB k l)

theorem offB_ok {k : Value} : ∀ {l : List (Value × Value)}, offB k l = true → ∀ p ∈ l, keyEq k p.1 = some false ∧ keyEq p.1 k = some false
  | [], _, p, hp => by cases hp
  | q :: l, h, p, hp => by
    simp only [offB, Bool.and_eq_true] at h
    rcases List.mem_cons.1 hp with rfl | hp
    · exact ⟨isFalse_ok h.1, isFalse_ok h.2.1⟩
    · exact offB_ok h.2.2 p hp

def pairB : List (Value × Value) → Bool
  | [] => true
  | p :: l => offB p.1 l && pairB l

theorem pairB_ok : ∀ {l : List (Value × Value)}, pairB l = true → l.Pairwise (fun a b => keyEq a.1 b.1 = some false ∧ keyEq b.1 a.1 = some false)
  | [], _ => .nil
  | p :: l, h => by
    simp only [pairB, Bool.and_eq_true] at h
    exact .cons (offB_ok h.1) (pairB_ok h.2)

theorem beqB_eq : ∀ {a b : List UInt8}, beqBytes a b = true → a = b
  | [], [], _ => rfl
  | [], _ :: _, h => by simp [beqBytes] at h
  | _ :: _, [], h => by simp [beqBytes] at h
  | x :: a, y :: b, h => by
    simp only [beqBytes] at h
    cases hb : Nat.beq x.toNat y.toNat with
    | false => simp only [hb, cond_false] at h; cases h
    | true =>
      simp only [hb, cond_true] at h
      rw [beqB_eq h, UInt8.toNat.inj (Nat.eq_of_beq_eq_true hb)]

def parL : List UInt8 := [112, 97, 114]

/-- An entry: new, or the one that is there already. -/
def entryB (E : List (Value × Value)) (p : Value × Value) : Bool :=
  match p.1 with
  | .string ⟨⟨c :: l⟩⟩ => bif beqBytes (c :: l) parL then true else offB p.1 E
  | _ => false

def allE (E : List (Value × Value)) : List (Value × Value) → Bool
  | [] => true
  | p :: l => entryB E p && allE E l

theorem dup_no {E : List (Value × Value)} {k : Value} (h : ∀ e ∈ E, keyEq k e.1 = some false) : dup E k = false := by
  unfold dup
  rw [findE_no h]

theorem par1 : findE (.string ⟨⟨parL⟩⟩) E0 = some (some (prim parL)) := by kernel_rfl
theorem par2 : putE (.string ⟨⟨parL⟩⟩) (prim parL) E0 = some E0 := by kernel_rfl

theorem entryB_ok {p : Value × Value} (h : entryB E0 p = true) : EntryOk E0 p := by
  obtain ⟨k, v⟩ := p
  unfold entryB at h
  split at h
  · rename_i c l hk
    simp only at hk
    subst hk
    refine ⟨⟨c, l, rfl⟩, fun hd => ?_, fun hd => ?_⟩
    · cases hb : beqBytes (c :: l) parL with
      | true => rw [beqB_eq hb]; exact ⟨par1, par2⟩
      | false =>
        simp only [hb, cond_false] at h
        rw [dup_no fun e he => (offB_ok h e he).1] at hd; cases hd
    · cases hb : beqBytes (c :: l) parL with
      | true =>
        rw [beqB_eq hb] at hd
        simp only [dup, par1] at hd; cases hd
      | false =>
        simp only [hb, cond_false] at h
        exact fun e he => (offB_ok h e he).1
  · cases h

theorem allE_ok : ∀ {l : List (Value × Value)}, allE E0 l = true → ∀ p ∈ l, EntryOk E0 p
  | [], _, p, hp => by cases hp
  | q :: l, h, p, hp => by
    simp only [allE, Bool.and_eq_true] at h
    rcases List.mem_cons.1 hp with rfl | hp
    · exact entryB_ok h.1
    · exact allE_ok h.2 p hp

variable {st : Int} {es : List (Value × Value)} {ver : Nat}
theorem leO : (LE st es ver).heap.obj 1 = some (.map es ver) := by kernel_rfl
theorem leA : paAll AObj.simple (LE st es ver).heap.objs = true := by kernel_rfl
theorem leP : plainTop (LE st es ver) = true := by kernel_rfl
theorem leS {es' : List (Value × Value)} : (⟨(LE st es ver).frame, (LE st es ver).callers, (LE st es ver).heap.setObj 1 (.map es' ver)⟩ : AM) = LE st es' ver := by kernel_rfl
theorem esOk : E0 ++ L0.filterMap (newE E0) = ES := by kernel_rfl
theorem l0a : L0.length = 93 := by kernel_rfl
theorem e0a : E0.length = 28 := by kernel_rfl
theorem l0b : allE E0 L0 = true := by kernel_rfl
theorem l0c : plainEsB L0 = true := by kernel_rfl
theorem e0c : plainEsB E0 = true := by kernel_rfl
theorem l0d : pairB L0 = true := by kernel_rfl

/-- The walk as a whole. -/
theorem walkAll (K : ProgOk P) {Q : AM → Prop} (h : Goes P (LE st ES (ver + 93)) Q) : Goes P (LH st L0 E0 ver) Q := by
  have hw := walk K (Q := Q) (st := st) (plainEsB_ok e0c) 93 L0 [] ver l0a (allE_ok l0b) (plainEsB_ok l0c) (pairB_ok l0d) (fun p hp => by cases hp) (fun p _ e he => by cases he)
    (by rw [l0a, e0a]; decide) fun add' ver' hv hp _ => by
      subst hv
      refine Goes.perm leP leA leO (es' := ES) ?_ leS h
      rw [← esOk]
      exact List.Perm.append_left _ (by simpa only [List.nil_append] using hp)
  simpa only [List.append_nil] using hw
end
end Go.Proofs.Gn

