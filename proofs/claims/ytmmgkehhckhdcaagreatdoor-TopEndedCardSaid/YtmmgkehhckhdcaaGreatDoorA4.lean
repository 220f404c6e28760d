/- A small machine over the model's own code, and that what it does stands for what the model does: part A4. Conditions: none. -/
import Derived.Test.YtmmgkehhckhdcaaGreatDoorA3

set_option linter.unusedVariables false
set_option linter.unusedSimpArgs false

/- Steps over values that are open: a slot's value is told in other words; an operation's result is shown apart. -/

namespace Go.Abs
noncomputable section

/-- So many steps, or none. -/
def run1 (P : Program) (n : Nat) (S : AM) : AM := match frun P n S with | some S => S | none => S

/-- A slot's value, told in other words. -/
def setSlot (S : AM) (t : Tmp) (v : Value) : AM :=
  match S with
  | ⟨⟨fn, nt, tm, todo, ds, r, kd, ro⟩, cs, h⟩ => match tm.put t v with | .box tm => ⟨⟨fn, nt, tm, todo, ds, r, kd, ro⟩, cs, h⟩

def slotV (S : AM) (t : Tmp) : Option Value := S.frame.tmps.get t

/-- The operation that is next, if it is to be done. -/
def opW (S : AM) : Option Op :=
  match S.frame.ret, S.frame.todo with
  | false, .seqR ops (i :: _) :: _ | false, .drawR ops (i :: _) :: _ => match lnth ops.toList i with
    | some o => match wantedA ops.toList S.frame.tmps o.guard with
      | some true => some o.op
      | _ => none
    | none => none
  | _, _ => none

def evS (S : AM) (x : Operand) : Option Value := ev S.frame.tmps x

/-- A value comes to the operation that is next. -/
def fin1 (P : Program) (S : AM) (v : Value) (h : AHeap) : AM := match finS P S v h with | some S => S | none => S

def plainTop (S : AM) : Bool := match S.frame.todo with | .drawR _ _ :: _ => false | _ => true

end

section
variable {P : Program} {Q : AM → Prop}

theorem Goes.go (K : ProgOk P) (n : Nat) {S : AM} (h : (frun P n S).isSome = true) (h' : Goes P (run1 P n S) Q) : Goes P S Q := by
  cases hr : frun P n S with
  | none => rw [hr] at h; cases h
  | some S' =>
    refine Goes.run K hr ?_
    simpa only [run1, hr] using h'

/-- Slots that have the same values. -/
theorem weaker_slots {fn : FuncId} {nt : Nat} {tm tm' : PA Value} {todo : List AItem} {ds : List Deferred} {r : Bool} {kd : CallKind} {ro : Option Nat} {cs : List AFrame} {h : AHeap} (hp : plainTop ⟨⟨fn, nt, tm, todo, ds, r, kd, ro⟩, cs, h⟩ = true)
    (ht : ∀ t v, tm'.get t = some v → tm.get t = some v) : Weaker P ⟨⟨fn, nt, tm, todo, ds, r, kd, ro⟩, cs, h⟩ ⟨⟨fn, nt, tm', todo, ds, r, kd, ro⟩, cs, h⟩ := by
  refine ⟨fun {ρ w0 n0 F Fs w} M => ?_⟩
  obtain ⟨hS, hg, n, hnn, hF, hc⟩ := M
  refine ⟨ρ, hS, hg, n, hnn, ?_, hc⟩
  cases hF with
  | mk _ _ _ _ _ _ _ _ ro' R T' ds' hn hT hr hd hro =>
    refine .mk _ _ _ _ _ _ _ _ _ _ _ _ hn (fun h0 => ?_) (fun h0 t v hv => hr h0 t v (ht t v hv)) hd hro
    cases hT h0 with
    | plain _ _ hs hI => exact .plain _ _ (fun t v hv => hs t v (ht t v hv)) hI
    | draw ops al rl k k' G _ _ _ _ => cases hp

theorem Goes.slot {S : AM} (t : Tmp) {v : Value} (v' : Value) (hv : slotV S t = some v) (hp : plainTop S = true) (he : v = v') (h' : Goes P (setSlot S t v') Q) : Goes P S Q := by
  obtain ⟨⟨fn, nt, tm, todo, ds, r, kd, ro⟩, cs, h⟩ := S
  subst he
  have hv : tm.get t = some v := hv
  refine Goes.weaken (weaker_slots (tm' := (tm.put t v).un) hp fun x y hy => ?_) ?_
  · rw [PA.put_get] at hy
    by_cases hx : x = t
    · subst hx
      rw [if_pos rfl] at hy
      rw [hv]; exact hy
    · rw [if_neg hx] at hy; exact hy
  · have : setSlot ⟨⟨fn, nt, tm, todo, ds, r, kd, ro⟩, cs, h⟩ t v = ⟨⟨fn, nt, (tm.put t v).un, todo, ds, r, kd, ro⟩, cs, h⟩ := by
      simp only [setSlot]
      cases tm.put t v; rfl
    rw [this] at h'
    exact h'

theorem opS_of {S : AM} {op : Op} {a : ANext} (ho : opW S = some op) (he : execF op P S.frame.tmps S.heap = some a) : opS P S = some a := by
  unfold opW at ho
  unfold opS
  split at ho
  · rename_i ops i rest k h1 h2
    try rw [h1, h2]
    try simp only
    split at ho
    · rename_i o hlo
      rw [hlo]
      simp only
      split at ho
      · rename_i hw
        rw [hw]
        simp only
        simp only [Option.some.injEq] at ho
        rw [ho]; exact he
      · cases ho
    · cases ho
  · rename_i ops i rest k h1 h2
    try rw [h1, h2]
    try simp only
    split at ho
    · rename_i o hlo
      rw [hlo]
      simp only
      split at ho
      · rename_i hw
        rw [hw]
        simp only
        simp only [Option.some.injEq] at ho
        rw [ho]; exact he
      · cases ho
    · cases ho
  · cases ho

theorem step_of_op {S : AM} {v : Value} {h2 : AHeap} (he : opS P S = some (.value v h2)) {S' : AM} (hf : finS P S v h2 = some S') : astep P S = some S' := by
  obtain ⟨⟨fn, nt, tm, todo, ds, r, kd, ro⟩, cs, h⟩ := S
  unfold opS at he
  simp only at he
  split at he
  · rename_i ops i rest k
    split at he
    · rename_i o hlo
      split at he
      · rename_i hw
        rw [execF_eq] at he
        have hnc : isComm o = false := by
          cases hc : isComm o with
          | false => rfl
          | true => rw [isComm_none hc] at he; cases he
        simp only [astep, cond_false, operA, hlo, hw, hnc, he, goOn]
        rw [← hf]; rfl
      · cases he
    · cases he
  · rename_i ops i rest k
    split at he
    · rename_i o hlo
      split at he
      · rename_i hw
        rw [execF_eq] at he
        have hnc : isComm o = false := by
          cases hc : isComm o with
          | false => rfl
          | true => rw [isComm_none hc] at he; cases he
        simp only [astep, cond_false, operA, hlo, hw, hnc, he, goOn]
        rw [← hf]; rfl
      · cases he
    · cases he
  · cases he

theorem step_of_skip {S : AM} {h2 : AHeap} (he : opS P S = some (.skip h2)) {S' : AM} (hf : finS P S undef h2 = some S') : astep P S = some S' := by
  obtain ⟨⟨fn, nt, tm, todo, ds, r, kd, ro⟩, cs, h⟩ := S
  unfold opS at he
  simp only at he
  split at he
  · rename_i ops i rest k
    split at he
    · rename_i o hlo
      split at he
      · rename_i hw
        rw [execF_eq] at he
        have hnc : isComm o = false := by
          cases hc : isComm o with
          | false => rfl
          | true => rw [isComm_none hc] at he; cases he
        simp only [astep, cond_false, operA, hlo, hw, hnc, he, goOn]
        rw [← hf]; rfl
      · cases he
    · cases he
  · rename_i ops i rest k
    split at he
    · rename_i o hlo
      split at he
      · rename_i hw
        rw [execF_eq] at he
        have hnc : isComm o = false := by
          cases hc : isComm o with
          | false => rfl
          | true => rw [isComm_none hc] at he; cases he
        simp only [astep, cond_false, operA, hlo, hw, hnc, he, goOn]
        rw [← hf]; rfl
      · cases he
    · cases he
  · cases he

theorem Goes.astep (K : ProgOk P) {S S' : AM} (h : astep P S = some S') (h' : Goes P S' Q) : Goes P S Q := Goes.of_steps (fun M => astep_ok K.x K.mix M h) h'

/-- An operation's result, shown apart. -/
theorem Goes.op (K : ProgOk P) {S : AM} {op : Op} (v : Value) (h2 : AHeap) (ho : opW S = some op) (he : execF op P S.frame.tmps S.heap = some (.value v h2)) (hf : (finS P S v h2).isSome = true) (h' : Goes P (fin1 P S v h2) Q) : Goes P S Q := by
  cases hfs : finS P S v h2 with
  | none => rw [hfs] at hf; cases hf
  | some S' =>
    refine Goes.astep K (step_of_op (opS_of ho he) hfs) ?_
    simpa only [fin1, hfs] using h'

theorem Goes.opSkip (K : ProgOk P) {S : AM} {op : Op} (h2 : AHeap) (ho : opW S = some op) (he : execF op P S.frame.tmps S.heap = some (.skip h2)) (hf : (finS P S undef h2).isSome = true) (h' : Goes P (fin1 P S undef h2) Q) : Goes P S Q := by
  cases hfs : finS P S undef h2 with
  | none => rw [hfs] at hf; cases hf
  | some S' =>
    refine Goes.astep K (step_of_skip (opS_of ho he) hfs) ?_
    simpa only [fin1, hfs] using h'

theorem fin1_eq {S : AM} {v : Value} {h2 : AHeap} (hf : (finS P S v h2).isSome = true) : finS P S v h2 = some (fin1 P S v h2) := by
  unfold fin1
  cases h : finS P S v h2 with
  | none => rw [h] at hf; cases hf
  | some S' => rfl

theorem Goes.opV (K : ProgOk P) {S : AM} (v : Value) (h2 : AHeap) (he : opS P S = some (.value v h2)) (hf : (finS P S v h2).isSome = true) (h' : Goes P (fin1 P S v h2) Q) : Goes P S Q :=
  Goes.astep K (step_of_op he (fin1_eq hf)) h'

theorem Goes.opK (K : ProgOk P) {S : AM} (h2 : AHeap) (he : opS P S = some (.skip h2)) (hf : (finS P S undef h2).isSome = true) (h' : Goes P (fin1 P S undef h2) Q) : Goes P S Q :=
  Goes.astep K (step_of_skip he (fin1_eq hf)) h'

/-- In small steps: a state, made small. -/
theorem Goes.small {keep : List (Nat × Bool)} {top : List Tmp} {slots : List (List Tmp)} {S S' : AM} (h : canon keep top slots S = some S')
    (hk : ∀ id o, (id, true) ∈ keep → S.heap.objs.get id = some o → PlainO o) (h' : Goes P S' Q) : Goes P S Q := Goes.weaken (canon_weaker h hk) h'

/-! ## Maps -/

theorem execF_lookup {t kt et : TypeId} {x ix : Operand} {ok : Bool} {tm : PA Value} {h : AHeap} {r ver : Nat} {es : List (Value × Value)} {k z : Value} (hx : ev tm x = some (.map (some r))) (hk : ev tm ix = some k) (hu : P.underlying t = some (.map kt et))
    (ho : h.obj r = some (.map es ver)) (hkt : keyT P kt k = true) (hf : findE k es = some none) (hz : zeroT P et = some z) : execF (.lookup t x ix ok) P tm h = some (.value (bif ok then .tuple ⟨[z, .bool false]⟩ else z) h) := by
  show x_lookup t x ix ok P tm h = _
  unfold x_lookup
  simp only [hx, hk, hu, hkt, cond_true, ho, hf, hz]

theorem execF_lookup_some {t kt et : TypeId} {x ix : Operand} {ok : Bool} {tm : PA Value} {h : AHeap} {r ver : Nat} {es : List (Value × Value)} {k v : Value} (hx : ev tm x = some (.map (some r))) (hk : ev tm ix = some k) (hu : P.underlying t = some (.map kt et))
    (ho : h.obj r = some (.map es ver)) (hkt : keyT P kt k = true) (hf : findE k es = some (some v)) : execF (.lookup t x ix ok) P tm h = some (.value (bif ok then .tuple ⟨[v, .bool true]⟩ else v) h) := by
  show x_lookup t x ix ok P tm h = _
  unfold x_lookup
  simp only [hx, hk, hu, hkt, cond_true, ho, hf]

theorem execA_mapUpdate {t kt et : TypeId} {m k x : Operand} {tm : PA Value} {h : AHeap} {o : Oper} {r ver : Nat} {es es' : List (Value × Value)} {kv v : Value} (hop : o.op = .mapUpdate t m k x) (hm : ev tm m = some (.map (some r))) (hk : ev tm k = some kv) (hv : ev tm x = some v)
    (hu : P.underlying t = some (.map kt et)) (ho : h.obj r = some (.map es ver)) (hkt : keyT P kt kv = true) (hf : putE kv v es = some es') : execA P tm h o = some (.skip (h.setObj r (.map es' (Nat.succ ver)))) := by
  unfold execA
  simp only [hop, hm, hk, hv, hu, hkt, cond_true, ho, hf]

theorem findE_no {k : Value} : ∀ {es : List (Value × Value)}, (∀ p ∈ es, keyEq k p.1 = some false) → findE k es = some none
  | [], _ => rfl
  | (k', v) :: l, h => by
    simp only [findE, h (k', v) List.mem_cons_self]
    exact findE_no fun p hp => h p (List.mem_cons_of_mem _ hp)

theorem putE_no {k v : Value} : ∀ {es : List (Value × Value)}, (∀ p ∈ es, keyEq k p.1 = some false) → putE k v es = some (es ++ [(k, v)])
  | [], _ => rfl
  | (k', v') :: l, h => by
    simp only [putE, h (k', v') List.mem_cons_self]
    rw [putE_no fun p hp => h p (List.mem_cons_of_mem _ hp)]
    rfl

/-! ## Operations by their forms -/

theorem opS_bin {S : AM} {b : BinOp} {t ty : TypeId} {x y : Operand} {v w r : Value} (ho : opW S = some (.binOp b t x y ty)) (hx : evS S x = some v) (hy : evS S y = some w) (hr : abin P b t v w = some r) : opS P S = some (.value r S.heap) := by
  refine opS_of ho ?_
  show x_binOp b t x y ty P S.frame.tmps S.heap = _
  unfold x_binOp
  unfold evS at hx hy
  simp only [hx, hy, hr]

theorem opS_lookup {S : AM} {t kt et : TypeId} {x ix : Operand} {ok : Bool} {r ver : Nat} {es : List (Value × Value)} {k z : Value} (hw : opW S = some (.lookup t x ix ok)) (hx : evS S x = some (.map (some r))) (hk : evS S ix = some k) (hu : P.underlying t = some (.map kt et))
    (ho : S.heap.obj r = some (.map es ver)) (hkt : keyT P kt k = true) (hf : findE k es = some none) (hz : zeroT P et = some z) : opS P S = some (.value (bif ok then .tuple ⟨[z, .bool false]⟩ else z) S.heap) :=
  opS_of hw (execF_lookup hx hk hu ho hkt hf hz)

theorem opS_lookup_some {S : AM} {t kt et : TypeId} {x ix : Operand} {ok : Bool} {r ver : Nat} {es : List (Value × Value)} {k v : Value} (hw : opW S = some (.lookup t x ix ok)) (hx : evS S x = some (.map (some r))) (hk : evS S ix = some k) (hu : P.underlying t = some (.map kt et))
    (ho : S.heap.obj r = some (.map es ver)) (hkt : keyT P kt k = true) (hf : findE k es = some (some v)) : opS P S = some (.value (bif ok then .tuple ⟨[v, .bool true]⟩ else v) S.heap) :=
  opS_of hw (execF_lookup_some hx hk hu ho hkt hf)

theorem opS_mapUpdate {S : AM} {t kt et : TypeId} {m k x : Operand} {r ver : Nat} {es es' : List (Value × Value)} {kv v : Value} (hw : opW S = some (.mapUpdate t m k x)) (hm : evS S m = some (.map (some r))) (hk : evS S k = some kv) (hv : evS S x = some v)
    (hu : P.underlying t = some (.map kt et)) (ho : S.heap.obj r = some (.map es ver)) (hkt : keyT P kt kv = true) (hf : putE kv v es = some es') : opS P S = some (.skip (S.heap.setObj r (.map es' (Nat.succ ver)))) := by
  refine opS_of hw ?_
  show x_mapUpdate t m k x P S.frame.tmps S.heap = _
  unfold x_mapUpdate
  unfold evS at hm hk hv
  simp only [hm, hk, hv, hu, hkt, cond_true, ho, hf]

end
end Go.Abs

/- Loops over maps: any order; a map's entries in another order. -/

namespace Go.Abs
section
variable {P : Program} {Q : AM → Prop}

theorem finishA_seq {fn nt : Nat} {tm : PA Value} {ops : Array Oper} {l : List Nat} {k : List AItem} {ds : List Deferred} {r : Bool} {kd : CallKind} {ro : Option Nat} {h h' : AHeap} {v : Value} :
    finishA P ⟨fn, nt, tm, .seqR ops l :: k, ds, r, kd, ro⟩ h v = finishA P ⟨fn, nt, tm, .seqR ops l :: k, ds, r, kd, ro⟩ h' v := by
  cases l <;> simp only [finishA]

theorem goes_all {fr : AFrame} {cs : List AFrame} {h : AHeap} {id m ver : Nat} : ∀ (l seen : List (Value × Value)), (∀ a k v b, l = a ++ (k, v) :: b → plainV.plainS k = true ∧ (finishA P fr h (.tuple ⟨[.bool true, k, v]⟩)).isSome = true) →
    ∃ r, anext.goes P fr cs h id m ver seen l = some r ∧ ∀ S' ∈ r, ∃ a k v b fr', l = a ++ (k, v) :: b ∧ finishA P fr h (.tuple ⟨[.bool true, k, v]⟩) = some fr' ∧ S' = ⟨fr', cs, h.setObj id (.mapIter m ver (seen ++ a ++ b) (some (k, v)))⟩
  | [], seen, _ => ⟨[], rfl, fun S' h => by cases h⟩
  | (k, v) :: l, seen, hl => by
    obtain ⟨h1, h2⟩ := hl [] k v l rfl
    obtain ⟨r, g1, g2⟩ := goes_all (fr := fr) (cs := cs) (h := h) (id := id) (m := m) (ver := ver) l (seen ++ [(k, v)]) fun a k' v' b hab => hl ((k, v) :: a) k' v' b (by rw [hab]; rfl)
    cases hf : finishA P fr h (.tuple ⟨[.bool true, k, v]⟩) with
    | none => rw [hf] at h2; cases h2
    | some fr' =>
      refine ⟨⟨fr', cs, h.setObj id (.mapIter m ver (seen ++ l) (some (k, v)))⟩ :: r, ?_, fun S' hS => ?_⟩
      · simp only [anext.goes, h1, cond_true, hf, g1]
      · rcases List.mem_cons.1 hS with rfl | hS
        · exact ⟨[], k, v, l, fr', rfl, hf, by simp⟩
        · obtain ⟨a, k', v', b, fr2, e1, e2, e3⟩ := g2 S' hS
          exact ⟨(k, v) :: a, k', v', b, fr2, by rw [e1]; rfl, e2, by rw [e3]; simp⟩

/-- The operation that is next is a step of a walk over a map. -/
def atNext (S : AM) (it : Operand) : Prop :=
  S.frame.ret = false ∧ ∃ ops i rest k o, S.frame.todo = .seqR ops (i :: rest) :: k ∧ lnth ops.toList i = some o ∧ o.op = .next it false ∧ o.guard = none

noncomputable def atNextB (S : AM) : Option Operand :=
  match S.frame.ret, S.frame.todo with
  | false, .seqR ops (i :: _) :: _ => match lnth ops.toList i with
    | some o => match o.op, o.guard with
      | .next it false, none => some it
      | _, _ => none
    | none => none
  | _, _ => none

theorem atNext_of {S : AM} {it : Operand} (h : atNextB S = some it) : atNext S it := by
  unfold atNextB at h
  split at h
  · rename_i ops i rest k h1 h2
    split at h
    · rename_i o ho
      split at h
      · rename_i h3 h4
        simp only [Option.some.injEq] at h; subst h
        exact ⟨h1, ops, i, rest, k, o, h2, ho, h3, h4⟩
      · cases h
    · cases h
  · cases h

/-- The next entry, whichever it is. -/
theorem Goes.nextAny {S : AM} {it : Operand} {id m ver : Nat} {left es : List (Value × Value)} {last : Option (Value × Value)} (hn : atNextB S = some it) (hev : evS S it = some (.pointer (some ⟨id, 0, none⟩)))
    (hob : S.heap.obj id = some (.mapIter m ver left last)) (hmob : S.heap.obj m = some (.map es ver))
    (h0 : left = [] → ∃ S', finS P S (.tuple ⟨[.bool false]⟩) S.heap = some S' ∧ Goes P S' Q)
    (h1 : ∀ a k v b, left = a ++ (k, v) :: b → plainV.plainS k = true ∧ ∃ S', finS P S (.tuple ⟨[.bool true, k, v]⟩) (S.heap.setObj id (.mapIter m ver (a ++ b) (some (k, v)))) = some S' ∧ Goes P S' Q) : Goes P S Q := by
  obtain ⟨hr, ops, i, rest, k, o, htd, hlo, hop, hg⟩ := atNext_of hn
  obtain ⟨⟨fn, nt, tm, todo, ds, r, kd, ro⟩, cs, h⟩ := S
  simp only at hr htd hob hmob h0 h1
  subst hr
  subst htd
  have hev : ev tm it = some (.pointer (some ⟨id, 0, none⟩)) := hev
  cases left with
  | nil =>
    obtain ⟨S', hf, hS⟩ := h0 rfl
    refine Goes.next (l := [S']) ?_ (fun S2 h2 => by rw [List.mem_singleton] at h2; subst h2; exact hS)
    simp only [anext, hlo, hop, hg, hev, hob, hmob, Nat.beq_refl, cond_true]
    unfold finS at hf
    simp only at hf
    split at hf
    · rename_i fr' hfr
      simp only [Option.some.injEq] at hf; subst hf
      simp only [hfr]
    · cases hf
  | cons p left =>
    obtain ⟨r, g1, g2⟩ := goes_all (P := P) (fr := ⟨fn, nt, tm, .seqR ops (i :: rest) :: k, ds, false, kd, ro⟩) (cs := cs) (h := h) (id := id) (m := m) (ver := ver) (p :: left) [] fun a k' v' b hab => by
      obtain ⟨h2, S', h3, _⟩ := h1 a k' v' b hab
      refine ⟨h2, ?_⟩
      unfold finS at h3
      simp only at h3
      rw [finishA_seq (h' := h)] at h3
      split at h3
      · rename_i fr' hfr; rw [hfr]; rfl
      · cases h3
    refine Goes.next (l := r) ?_ fun S2 hS2 => ?_
    · simp only [anext, hlo, hop, hg, hev, hob, hmob, Nat.beq_refl, cond_true]
      exact g1
    · obtain ⟨a, k', v', b, fr', e1, e2, e3⟩ := g2 S2 hS2
      obtain ⟨_, S', h3, h4⟩ := h1 a k' v' b e1
      unfold finS at h3
      simp only at h3
      rw [finishA_seq (h' := h), e2] at h3
      simp only [Option.some.injEq] at h3
      rw [e3]
      simp only [List.nil_append]
      rw [h3]; exact h4

/-! ## A map's entries in another order -/

theorem keysOk_perm {l l' : List (Value × Value)} (hp : l.Perm l') (h : KeysOk l) : KeysOk l' :=
  (hp.pairwise_iff (fun {a b} hab => ⟨hab.2, hab.1⟩)).1 h

theorem EsRel.perm {ρ : Ren} {l l' : List (Value × Value)} (hp : l.Perm l') : ∀ {m : List MapEntry}, EsRel ρ l m → ∃ m', m'.Perm m ∧ EsRel ρ l' m' := by
  induction hp with
  | nil => intro m h; exact ⟨m, List.Perm.refl _, h⟩
  | cons x _ ih =>
    intro m h
    obtain ⟨k, v⟩ := x
    cases h with
    | cons _ _ e _ m2 hk hv hl =>
      obtain ⟨m', h1, h2⟩ := ih hl
      exact ⟨e :: m', h1.cons e, .cons k v e _ _ hk hv h2⟩
  | swap x y l =>
    intro m h
    obtain ⟨k, v⟩ := x
    obtain ⟨k2, v2⟩ := y
    cases h with
    | cons _ _ e _ m2 hk hv hl =>
      cases hl with
      | cons _ _ e2 _ m3 hk2 hv2 hl2 => exact ⟨e2 :: e :: m3, List.Perm.swap _ _ _, .cons k v e2 _ _ hk2 hv2 (.cons k2 v2 e _ _ hk hv hl2)⟩
  | trans _ _ ih1 ih2 =>
    intro m h
    obtain ⟨m1, h1, h2⟩ := ih1 h
    obtain ⟨m2, h3, h4⟩ := ih2 h2
    exact ⟨m2, h3.trans h1, h4⟩

def simpleHeap (h : AHeap) : Prop := ∀ id o, h.objs.get id = some o → o.simple = true

theorem weaker_perm {fr : AFrame} {cs : List AFrame} {h : AHeap} {m ver : Nat} {es es' : List (Value × Value)} (hpt : plainTop ⟨fr, cs, h⟩ = true) (hs : simpleHeap h) (ho : h.obj m = some (.map es ver)) (hp : es.Perm es') :
    Weaker P ⟨fr, cs, h⟩ ⟨fr, cs, h.setObj m (.map es' ver)⟩ := by
  refine ⟨fun {ρ w0 n0 F Fs w} M => ?_⟩
  obtain ⟨hS, hg, n, hnn, hF, hc⟩ := M
  simp only at hS hnn hF hc
  obtain ⟨n1, n2, n3⟩ := h.setObj_eq m (.map es' ver)
  have hom := obj_get ho
  refine ⟨ρ, ?_, hg, n, by simp only [n1]; exact hnn, ?_, hc⟩
  · have key : ∀ i o, (h.setObj m (.map es' ver)).objs.get i = some o → (i = m ∧ o = .map es' ver) ∨ (i ≠ m ∧ h.objs.get i = some o) := by
      intro i o hi
      rw [n3] at hi
      by_cases him : i = m
      · rw [if_pos him] at hi; cases hi; exact .inl ⟨him, rfl⟩
      · rw [if_neg him] at hi; exact .inr ⟨him, hi⟩
    refine { obj := fun i e hi => ?_, blk := hS.blk, lt := fun i hi => ?_, sep := fun i j ei ej oi oj hi hj hoi hoj hb => ?_, wr := fun i e o hi ho2 hw => ?_, tip := fun f F hF i e et o hi ht ho2 hof hgd hb => ?_, tlt := fun f F hF => ?_, tipf := fun f F hF => ?_, fam := fun i o f ho2 hof => ?_, old := hS.old, size := hS.size, env := hS.env }
    · obtain ⟨o, ho2, hor⟩ := hS.obj i e hi
      by_cases him : i = m
      · subst him
        rw [hom] at ho2; cases ho2
        refine ⟨.map es' ver, by rw [n3, if_pos rfl], fun _ => ?_⟩
        obtain ⟨res, clock, a1, ⟨l, hpm, hl⟩, a2, a3⟩ := hor (AHeap.good_none _ _)
        obtain ⟨l', b1, b2⟩ := hl.perm hp
        exact ⟨res, clock, a1, ⟨l', b1.trans hpm, b2⟩, keysOk_perm hp a2, a3⟩
      · refine ⟨o, by rw [n3, if_neg him]; exact ho2, fun hgd => ?_⟩
        rw [AHeap.good_fams n2] at hgd
        have h1 := hor hgd
        have hsm := hs i o ho2
        cases o with
        | cells => exact h1
        | map => exact h1
        | chan => exact h1
        | strIter => exact h1
        | _ => simp [AObj.simple] at hsm
    · rw [n1] at hi
      rw [n3, if_neg (by intro hh; subst hh; rw [hS.lt i hi] at hom; cases hom)]
      exact hS.lt i hi
    · have k2 : ∀ i o, (h.setObj m (.map es' ver)).objs.get i = some o → ∃ o2, h.objs.get i = some o2 ∧ o2.fam = o.fam ∧ o2.isZ = o.isZ := by
        intro i o hi
        rcases key i o hi with ⟨rfl, rfl⟩ | ⟨_, h2⟩
        · exact ⟨_, hom, rfl, rfl⟩
        · exact ⟨o, h2, rfl, rfl⟩
      obtain ⟨o1, c1, c2, c3⟩ := k2 i oi hoi
      obtain ⟨o2, d1, d2, d3⟩ := k2 j oj hoj
      rw [← c2, ← d2, ← c3, ← d3]
      exact hS.sep i j ei ej o1 o2 hi hj c1 d1 hb
    · rcases key i o ho2 with ⟨rfl, rfl⟩ | ⟨_, h2⟩
      · exact hS.wr i e _ hi hom rfl
      · exact hS.wr i e o hi h2 hw
    · rw [n2] at hF
      rw [AHeap.good_fams n2] at hgd
      rcases key i o ho2 with ⟨rfl, rfl⟩ | ⟨_, h2⟩
      · cases hof
      · exact hS.tip f F hF i e et o hi ht h2 hof hgd hb
    · rw [n2] at hF; rw [n1]; exact hS.tlt f F hF
    · rw [n2] at hF
      obtain ⟨o, h1, h2⟩ := hS.tipf f F hF
      have : F.tip ≠ m := by intro hh; rw [hh, hom] at h1; cases h1; cases h2
      exact ⟨o, by rw [n3, if_neg this]; exact h1, h2⟩
    · rw [n2]
      rcases key i o ho2 with ⟨rfl, rfl⟩ | ⟨_, h2⟩
      · cases hof
      · exact hS.fam i o f h2 hof
  · simp only [n1]
    cases hF with
    | mk _ _ _ _ _ _ _ _ ro' R T' ds' hn hT hr hd hro =>
      refine .mk _ _ _ _ _ _ _ _ _ _ _ _ hn (fun h0 => ?_) hr hd hro
      cases hT h0 with
      | plain _ _ hs2 hI => exact .plain _ _ hs2 hI
      | draw ops al rl k k' G _ _ _ _ => cases hpt

def allL (f : AObj → Bool) : List AObj → Bool
  | [] => true
  | o :: l => f o && allL f l

def paAll (f : AObj → Bool) : PA AObj → Bool
  | .nil => true
  | .node v l r => (match v with | none => true | some o => f o) && (paAll f l && paAll f r)
  | .lst l => allL f l
  | .over _ _ _ => false

theorem allL_get {f : AObj → Bool} : ∀ {l : List AObj} {i : Nat} {o : AObj}, allL f l = true → l[i]? = some o → f o = true
  | [], i, o, _, h => by simp at h
  | x :: l, i, o, ha, h => by
    simp only [allL, Bool.and_eq_true] at ha
    cases i with
    | zero => simp at h; subst h; exact ha.1
    | succ i => exact allL_get ha.2 (by simpa using h)

theorem paAll_get {f : AObj → Bool} : ∀ {t : PA AObj} {i : Nat} {o : AObj}, paAll f t = true → t.get i = some o → f o = true
  | .nil, i, o, _, h => by rw [PA.get_nil] at h; cases h
  | .node v l r, i, o, ha, h => by
    simp only [paAll, Bool.and_eq_true] at ha
    rw [PA.get_node] at h
    by_cases h0 : i = 0
    · rw [if_pos h0] at h; subst h; exact ha.1
    · rw [if_neg h0] at h
      by_cases h1 : i % 2 = 1
      · rw [if_pos h1] at h; exact paAll_get ha.2.1 h
      · rw [if_neg h1] at h; exact paAll_get ha.2.2 h
  | .lst l, i, o, ha, h => by rw [PA.get_lst] at h; exact allL_get ha h
  | .over m a t, i, o, ha, h => by simp [paAll] at ha

theorem simpleHeap_of {h : AHeap} (ha : paAll AObj.simple h.objs = true) : simpleHeap h := fun _ _ ho => paAll_get ha ho

/-- A map's entries, told in another order. -/
theorem Goes.perm {S S' : AM} {m ver : Nat} {es es' : List (Value × Value)} (hpt : plainTop S = true) (ha : paAll AObj.simple S.heap.objs = true) (ho : S.heap.obj m = some (.map es ver)) (hp : es.Perm es') (hS : ⟨S.frame, S.callers, S.heap.setObj m (.map es' ver)⟩ = S') (h' : Goes P S' Q) : Goes P S Q :=
  Goes.weaken (weaker_perm hpt (simpleHeap_of ha) ho hp) (hS ▸ h')

end
end Go.Abs

/- A call that needs nothing of memory but the globals: it does the same in any memory, and what it makes comes behind what was there. -/

namespace Go.Abs
section
variable {P : Program} {ρ : Ren} {w0 : World} {n0 : Nat} {h : AHeap} {w : World}

/-- Each kept block may be written, or is empty. -/
noncomputable def keptB (h : AHeap) : List (Nat × Bool) → Bool
  | [] => true
  | (id, _) :: l => (match h.objs.get id with | some o => o.wr || o.isZ | none => false) && keptB h l

theorem keptB_get {h : AHeap} : ∀ {keep : List (Nat × Bool)}, keptB h keep = true → ∀ (i id : Nat) (q : Bool) (o : AObj), keep[i]? = some (id, q) → h.objs.get id = some o → o.wr = true ∨ o.isZ = true
  | [], _, i, id, q, o, hk, _ => by simp at hk
  | (x, y) :: l, ha, i, id, q, o, hk, ho => by
    simp only [keptB, Bool.and_eq_true] at ha
    cases i with
    | zero =>
      simp at hk
      obtain ⟨rfl, rfl⟩ := hk
      have := ha.1
      rw [ho] at this
      simpa using this
    | succ i => exact keptB_get ha.2 i id q o (by simpa using hk) ho

theorem renO_fam {σ : Nat → Option Nat} {q : Bool} {o u : AObj} (c : renO σ q o = some u) : u.fam = none := by
  cases o <;> simp only [renO] at c
  · split at c
    · simp only [Option.some.injEq] at c; subst c; rfl
    · cases c
  · split at c
    · simp only [Option.some.injEq] at c; subst c; rfl
    · cases c
  · split at c
    · simp only [Option.some.injEq] at c; subst c; rfl
    · cases c
  · cases c
  · split at c
    · split at c
      · simp only [Option.some.injEq] at c; subst c; rfl
      · cases c
    · cases c
  · cases c
  · cases c

/-- A call that needs nothing of memory but the globals, in any memory. -/
theorem callOk_base {f : FuncId} {args : List Value} {fr0 : AFrame} {v v2 : Value} {h0 h2 : AHeap} {b0 : AObj} {keep : List (Nat × Bool)} {t : PA AObj}
    (he : enterA P f args .normal = some fr0) (hgo : Goes P ⟨fr0, [], h0⟩ (Returns P f v h2)) (hargs : renVs (fun _ => none) args = some args)
    (hn : h0.next = 1) (hz : h0.objs.get 0 = some b0) (hz' : ∀ i, i ≠ 0 → h0.objs.get i = none) (hfm : h0.fams = .nil) (hwr : b0.wr = false) (hfam : b0.fam = none) (hb0 : renO (fun _ => none) false b0 = some b0)
    (hb : h.objs.get 0 = some b0) (hk1 : nodupN (keep.map (·.1)) = true) (hk2 : nodupN (famsOf h2 keep) = true) (hk3 : keptB h2 keep = true) (hpl : ∀ id o, (id, true) ∈ keep → h2.objs.get id = some o → PlainO o)
    (hc : canonH (newId keep h.next) h2 keep h.next h.objs = some t) (hv : renV (newId keep h.next) v = some v2) : CallOk P f args h v2 ⟨t, h.next + keep.length, h.fams⟩ := by
  refine ⟨Nat.le_add_right _ _, fun {ρ w0 n0 w args'} S hg ha c cs => ?_⟩
  obtain ⟨e0, g1, g2, g3⟩ := hg
  let ρ0 : Ren := fun i => if i = 0 then some e0 else none
  have hρ0 : ∀ i e, ρ0 i = some e → i = 0 ∧ e = e0 := by
    intro i e hi
    have hi : (if i = 0 then some e0 else none) = some e := hi
    by_cases h : i = 0
    · rw [if_pos h] at hi; exact ⟨h, (Option.some.inj hi).symm⟩
    · rw [if_neg h] at hi; cases hi
  have hle0 : ρ0.le ρ := fun i e hi => by obtain ⟨rfl, rfl⟩ := hρ0 i e hi; exact g1
  have hA : VsRel ρ0 args args' := renVs_rel (σ := fun _ => none) (fun id i hh => by cases hh) ha hargs
  have hS0 : SRel ρ0 w w.heap.size h0 w := by
    refine { obj := ?_, blk := ?_, lt := ?_, sep := ?_, wr := ?_, tip := ?_, tlt := ?_, tipf := ?_, fam := ?_, old := fun _ _ => rfl, size := Nat.le_refl _, env := ⟨rfl, rfl, rfl⟩ }
    · intro i e hi
      obtain ⟨rfl, rfl⟩ := hρ0 i e hi
      refine ⟨b0, hz, fun _ => ?_⟩
      obtain ⟨o, ho, hor⟩ := S.obj 0 e g1
      rw [hb] at ho; cases ho
      have hor := hor (by rw [hfam]; exact AHeap.good_none _ _)
      exact (renO_rel (σ := fun _ => none) (ρ' := ρ0) (h' := h0) (fun id i hh => by cases hh) hb0 (fun hh => by cases hh) (fun m m' es v hh _ => by cases hh) hor).1
    · intro i e hi; obtain ⟨rfl, rfl⟩ := hρ0 i e hi; exact S.blk 0 _ g1
    · intro i hi; exact hz' i (by omega)
    · intro i j ei ej oi oj hi hj _ _ _
      left; rw [(hρ0 i ei hi).1, (hρ0 j ej hj).1]
    · intro i e o hi ho hw
      obtain ⟨rfl, rfl⟩ := hρ0 i e hi
      rw [hz] at ho; cases ho
      rw [hwr] at hw; cases hw
    · intro f F hF; rw [hfm, PA.get_nil] at hF; cases hF
    · intro f F hF; rw [hfm, PA.get_nil] at hF; cases hF
    · intro f F hF; rw [hfm, PA.get_nil] at hF; cases hF
    · intro i o f ho hf
      by_cases h : i = 0
      · subst h; rw [hz] at ho; cases ho; rw [hfam] at hf; cases hf
      · rw [hz' i h] at ho; cases ho
  obtain ⟨S1, ρ1, F1, Fs1, w1, r1, r2, r3⟩ := hgo.get (bs := c :: cs) (enter_rel he hS0 ⟨e0, if_pos rfl, g2, g3⟩ hA)
  obtain ⟨v', b1, S2, _, b3⟩ := leave_steps r1 r3 c cs
  have hn1 := nodupN_iff.1 hk1
  have hn2 := nodupN_iff.1 hk2
  obtain ⟨c1, c2, c3⟩ := canonH_get hc
  let ρ2 : Ren := fun i => if i < h.next then ρ i else match keep[i - h.next]? with | some (id, _) => ρ1 id | none => none
  have hdom : ∀ i e, ρ i = some e → i < h.next := by
    intro i e hi
    obtain ⟨o, ho, _⟩ := S.obj i e hi
    rcases Nat.lt_or_ge i h.next with h1 | h1
    · exact h1
    · rw [S.lt i h1] at ho; cases ho
  have hold : ∀ i, i < h.next → ρ2 i = ρ i := fun i hi => if_pos hi
  have hnew : ∀ j, ρ2 (h.next + j) = match keep[j]? with | some (id, _) => ρ1 id | none => none := by
    intro j
    show (if h.next + j < h.next then _ else _) = _
    rw [if_neg (by omega), Nat.add_sub_cancel_left]
  have hle : ρ.le ρ2 := fun i e hi => by rw [hold i (hdom i e hi)]; exact hi
  have hfit : Fits (newId keep h.next) ρ1 ρ2 := by
    intro id i hi
    obtain ⟨hge, q, hq2⟩ := newId_some hi
    obtain ⟨j, rfl⟩ : ∃ j, i = h.next + j := ⟨i - h.next, by omega⟩
    rw [Nat.add_sub_cancel_left] at hq2
    rw [hnew, hq2]
  -- what a number of the new renaming is
  have hcase : ∀ i e, ρ2 i = some e → (i < h.next ∧ ρ i = some e) ∨ (∃ j id q, i = h.next + j ∧ keep[j]? = some (id, q) ∧ ρ1 id = some e) := by
    intro i e hi
    rcases Nat.lt_or_ge i h.next with h1 | h1
    · rw [hold i h1] at hi; exact .inl ⟨h1, hi⟩
    · obtain ⟨j, rfl⟩ : ∃ j, i = h.next + j := ⟨i - h.next, by omega⟩
      rw [hnew] at hi
      cases hkj : keep[j]? with
      | none => rw [hkj] at hi; cases hi
      | some p =>
        obtain ⟨id, q⟩ := p
        rw [hkj] at hi
        exact .inr ⟨j, id, q, rfl, hkj, hi⟩
  have hobj : ∀ (j id : Nat) (q : Bool), keep[j]? = some (id, q) → ∃ o o', h2.objs.get id = some o ∧ h2.good id o.fam = true ∧ renO (newId keep h.next) q o = some o' ∧ t.get (h.next + j) = some o' := c3
  have hrel : ∀ (e : RE) (j id : Nat) (q : Bool) (o o' : AObj), keep[j]? = some (id, q) → ρ1 id = some e → h2.objs.get id = some o → h2.good id o.fam = true → renO (newId keep h.next) q o = some o' →
      ORel ρ2 ⟨t, h.next + keep.length, h.fams⟩ w1 e o' ∧ o'.fam = none ∧ o'.wr = o.wr ∧ (o.isZ = true → o'.isZ = true) := by
    intro e j id q o o' hk he ho hgd hr
    obtain ⟨o2, ho2, hor⟩ := S2.obj id e he
    rw [ho] at ho2; cases ho2
    refine renO_rel hfit hr (fun hqt => ?_) (fun m m' es v hm hmo => ?_) (hor hgd)
    · subst hqt; exact hpl id o (List.mem_of_getElem? hk) ho
    · obtain ⟨hge, q2, hq2⟩ := newId_some hm
      obtain ⟨j2, rfl⟩ : ∃ j, m' = h.next + j := ⟨m' - h.next, by omega⟩
      rw [Nat.add_sub_cancel_left] at hq2
      obtain ⟨om, om', a1, a2, a3, a4⟩ := hobj j2 m q2 hq2
      rw [hmo] at a1; cases a1
      simp only [renO] at a3
      split at a3
      · rename_i es2 _
        simp only [Option.some.injEq] at a3; subst a3
        exact ⟨es2, a4⟩
      · cases a3
  have hsame : ∀ b, b < w.heap.size → w1.heap[b]? = w.heap[b]? := S2.old
  have hsz : w.heap.size ≤ w1.heap.size := S2.size
  have htold : ∀ i, i < h.next → t.get i = h.objs.get i := c1
  have hfar : ∀ (j id : Nat) (q : Bool) (e : RE) (o : AObj), keep[j]? = some (id, q) → ρ1 id = some e → h2.objs.get id = some o → w.heap.size ≤ e.blk ∨ o.isZ = true := by
    intro j id q e o hk he ho
    rcases keptB_get hk3 j id q o hk ho with h1 | h1
    · exact .inl (S2.wr id e o he ho h1)
    · exact .inr h1
  have hne : keep.length = keep.length := rfl
  have hSR : SRel ρ2 w0 n0 ⟨t, h.next + keep.length, h.fams⟩ w1 := by
    refine { obj := ?_, blk := ?_, lt := ?_, sep := ?_, wr := ?_, tip := ?_, tlt := ?_, tipf := ?_, fam := ?_, old := ?_, size := ?_, env := ?_ }
    · intro i e hi
      rcases hcase i e hi with ⟨h1, h3⟩ | ⟨j, id, q, rfl, hk, h3⟩
      · obtain ⟨o, ho, hor⟩ := S.obj i e h3
        refine ⟨o, by show t.get i = _; rw [htold i h1]; exact ho, fun hgd => ?_⟩
        have hgd : h.good i o.fam = true := by
          cases hfo : o.fam with
          | none => exact AHeap.good_none _ _
          | some ff =>
            rw [hfo] at hgd
            simpa only [AHeap.good] using hgd
        refine ((hor hgd).other (h' := ⟨t, h.next + keep.length, h.fams⟩) (hsame _ (S.blk i e h3)) fun m em es v hm hmo => ?_).mono hle
        exact ⟨es, v, by show t.get m = _; rw [htold m (hdom m em hm)]; exact hmo, .inr ⟨rfl, rfl, hsame _ (S.blk m em hm)⟩⟩
      · obtain ⟨o, o', a, b, c, d⟩ := hobj j id q hk
        exact ⟨o', d, fun _ => (hrel e j id q o o' hk h3 a b c).1⟩
    · intro i e hi
      rcases hcase i e hi with ⟨h1, h3⟩ | ⟨j, id, q, rfl, hk, h3⟩
      · exact Nat.lt_of_lt_of_le (S.blk i e h3) hsz
      · exact S2.blk id e h3
    · intro i hi
      have hi : h.next + keep.length ≤ i := hi
      show t.get i = none
      rw [c2 i hi]
      exact S.lt i (by omega)
    · intro i j ei ej oi oj hi hj hoi hoj hbb
      have hoi : t.get i = some oi := hoi
      have hoj : t.get j = some oj := hoj
      rcases hcase i ei hi with ⟨h1, h3⟩ | ⟨i2, id, q, rfl, hk, h3⟩
      · rw [htold i h1] at hoi
        rcases hcase j ej hj with ⟨h1', h3'⟩ | ⟨j2, id', q', rfl, hk', h3'⟩
        · rw [htold j h1'] at hoj
          exact S.sep i j ei ej oi oj h3 h3' hoi hoj hbb
        · obtain ⟨p, p', a', b', c', d'⟩ := hobj j2 id' q' hk'
          rw [d'] at hoj
          have hoj := Option.some.inj hoj
          subst hoj
          rcases hfar j2 id' q' ej p hk' h3' a' with h4 | h4
          · have := S.blk i ei h3; omega
          · right; right; right; exact (hrel ej j2 id' q' p p' hk' h3' a' b' c').2.2.2 h4
      · obtain ⟨o, o', a, b, c, d⟩ := hobj i2 id q hk
        rw [d] at hoi
        have hoi := Option.some.inj hoi
        subst hoi
        rcases hcase j ej hj with ⟨h1', h3'⟩ | ⟨j2, id', q', rfl, hk', h3'⟩
        · rcases hfar i2 id q ei o hk h3 a with h4 | h4
          · have := S.blk j ej h3'; omega
          · right; right; left; exact (hrel ei i2 id q o o' hk h3 a b c).2.2.2 h4
        · obtain ⟨p, p', a', b', c', d'⟩ := hobj j2 id' q' hk'
          rw [d'] at hoj
          have hoj := Option.some.inj hoj
          subst hoj
          rcases S2.sep id id' ei ej o p h3 h3' a a' hbb with h4 | ⟨ff, h4, h5⟩ | h4 | h4
          · left
            subst h4
            have hi1 : i2 < keep.length := by
              rcases Nat.lt_or_ge i2 keep.length with h | h
              · exact h
              · rw [List.getElem?_eq_none h] at hk; cases hk
            have e1 : (keep.map (·.1))[i2]? = some id := by rw [List.getElem?_map, hk]; rfl
            have e2 : (keep.map (·.1))[j2]? = some id := by rw [List.getElem?_map, hk']; rfl
            have : i2 = j2 := (List.getElem?_inj (by simpa using hi1) hn1).1 (by rw [e1, e2])
            rw [this]
          · left
            have := famsOf_nodup hn2 hn1 hk hk' a a' h4 h5
            omega
          · right; right; left
            exact (hrel ei i2 id q o o' hk h3 a b c).2.2.2 h4
          · right; right; right
            exact (hrel ej j2 id' q' p p' hk' h3' a' b' c').2.2.2 h4
    · intro i e oi hi hoi hw
      have hoi : t.get i = some oi := hoi
      rcases hcase i e hi with ⟨h1, h3⟩ | ⟨j, id, q, rfl, hk, h3⟩
      · rw [htold i h1] at hoi
        exact S.wr i e oi h3 hoi hw
      · obtain ⟨o, o', a, b, c, d⟩ := hobj j id q hk
        rw [d] at hoi
        have hoi := Option.some.inj hoi
        subst hoi
        have := S2.wr id e o h3 a (by rw [← (hrel e j id q o o' hk h3 a b c).2.2.1]; exact hw)
        have := S.size
        omega
    · intro ff F hF id e et o hid htp ho hof hgd hbl
      have hF : h.fams.get ff = some F := hF
      have ho : t.get id = some o := ho
      have hF2 : F.tip < h.next := S.tlt ff F hF
      rw [hold _ hF2] at htp
      rcases hcase id e hid with ⟨h1, h3⟩ | ⟨j, id', q, rfl, hk, h3⟩
      · rw [htold id h1] at ho
        exact S.tip ff F hF id e et o h3 htp ho hof (by simpa only [AHeap.good] using hgd) hbl
      · obtain ⟨o1, o', a, b, c, d⟩ := hobj j id' q hk
        rw [d] at ho
        have ho := Option.some.inj ho
        subst ho
        rw [(hrel e j id' q o1 o' hk h3 a b c).2.1] at hof; cases hof
    · intro ff F hF
      have := S.tlt ff F hF
      show F.tip < h.next + keep.length
      omega
    · intro ff F hF
      have := S.tlt ff F hF
      obtain ⟨o, ho, hof⟩ := S.tipf ff F hF
      exact ⟨o, by show t.get F.tip = _; rw [htold _ this]; exact ho, hof⟩
    · intro i o ff ho hof
      have ho : t.get i = some o := ho
      rcases Nat.lt_or_ge i h.next with h1 | h1
      · rw [htold i h1] at ho
        exact S.fam i o ff ho hof
      · exfalso
        rcases Nat.lt_or_ge i (h.next + keep.length) with h3 | h3
        · obtain ⟨j, rfl⟩ : ∃ j, i = h.next + j := ⟨i - h.next, by omega⟩
          have hj : j < keep.length := by omega
          obtain ⟨p, hp⟩ : ∃ p, keep[j]? = some p := ⟨keep[j], List.getElem?_eq_getElem hj⟩
          obtain ⟨id, q⟩ := p
          obtain ⟨o1, o', a, b, c, d⟩ := hobj j id q hp
          rw [d] at ho
          have ho := Option.some.inj ho
          subst ho
          rw [renO_fam c] at hof; cases hof
        · rw [c2 i h3, S.lt i h1] at ho; cases ho
    · intro b hb2
      rw [hsame b (Nat.lt_of_lt_of_le hb2 S.size)]
      exact S.old b hb2
    · exact Nat.le_trans S.size hsz
    · obtain ⟨a, b, c⟩ := S2.env
      obtain ⟨a', b', c'⟩ := S.env
      exact ⟨a.trans a', b.trans b', c.trans c'⟩
  exact ⟨v', w1, ρ2, ⟨hle, fun i hi => hold i hi⟩, Steps.trans r2 (.one b3), renV_rel hfit b1 hv, hSR⟩
end
end Go.Abs

/- Runs over open values: the operations whose results turn on them are told ahead; what has to be shown of each one comes out as a proposition. -/

namespace Go.Abs
noncomputable section

/-- What an operation over open values gives. -/
inductive Ev where
  | bin (r : Value)
  | un (r : Value)
  | load (l : List Value)
  | loadH (l : List Value)
  | addr
  | index (b : UInt8)
  | conv (r : Value)
  | convB (l : List Value) (b : List UInt8)
  | slS (r : List UInt8)
  | slB (m e l : Nat) (q : Bool)
  | slH (v : Value)
  | app (l : List Value) (n : Nat) (old new : List Value) (nl : Nat) (full : Bool)
  | app0 (l : List Value) (n : Nat)
  | look (r : Option Value)
  | upd (es : List (Value × Value))
  | ibs (r : Int)
  | call (v : Value)
  | char (at_ : Nat) (c : UInt8) (cat : Int)
  | charK (at_ : Nat) (c : UInt8)
  | charC
  | ret
  | light

/-- What comes of it. -/
inductive EvR where
  | mk (p : Prop) (skip : Bool) (v : Value) (h : AHeap)

def loadE (h : AHeap) (id off n : Nat) (l : List Value) : Option Prop :=
  match h.objs.get id with
  | some (.cells c size _ _ _ _ fam) => bif h.good id fam then some (Nat.ble (Nat.add off n) size = true ∧ c.loadN off n = some l) else none
  | _ => none

/-- A call that leaves memory as it is, whatever that is. -/
def CallV (P : Program) (f : FuncId) (args : List Value) (v : Value) : Prop :=
  ∀ {S : AM} {Q : AM → Prop}, opS P S = some (.enter f args) → (finS P S v S.heap).isSome = true → Goes P (fin1 P S v S.heap) Q → Goes P S Q

/-- The next character of a line, if it is no superscript. -/
def CharOk (P : Program) (f : FuncId) : Prop :=
  ∀ {S : AM} {Q : AM → Prop} {r cd b at_ len cap k : Nat} {ex : Bool} {c : UInt8} {cat : Int}, opS P S = some (.enter f [.pointer (some ⟨r, 0, none⟩), .pointer (some ⟨cd, 0, none⟩)]) →
    S.heap.load r 5 1 = some [.int .i64 (Int.ofNat at_)] → S.heap.load r 4 1 = some [.slice (some ⟨b, 0, none⟩) len cap] → at_ < len → len ≤ cap → len < 2 ^ 63 → sliceA.objK S.heap b 0 = some (k, ex) → (ex || Nat.beq 1 k) = true →
    S.heap.load b at_ 1 = some [.int .u8 (Int.ofNat c.toNat)] → S.heap.load cd c.toNat 1 = some [.int .i64 cat] → cat ≠ 7 →
    (finS P S (.tuple ⟨[.int .u8 (Int.ofNat c.toNat), .bool true]⟩) S.heap).isSome = true → Goes P (fin1 P S (.tuple ⟨[.int .u8 (Int.ofNat c.toNat), .bool true]⟩) S.heap) Q → Goes P S Q

def oApp (P : Program) (h : AHeap) (elem : TypeId) (k : Nat) (i : TypeInfo) (id off len cap : Nat) (l : List Value) (n : Nat) (old new : List Value) (nl : Nat) (full : Bool) (p : Prop) : Option EvR :=
  match loadE h id off (Nat.mul len k) old, h.objs.get id with
  | some q, some (.cells c size e k' exact wr fam) =>
    match PA.rowB false new with
    | .box c2 =>
      bif zeroOk i && !Nat.beq i.size 0 && Nat.ble i.bytes 65536 && Nat.beq i.size k then
        bif exact then
          match h.new (.cells c2 (Nat.mul nl k) elem k false true none) with
          | (id2, h) => some (.mk (p ∧ q ∧ Nat.ble nl cap = false ∧ oneL l = true ∧ Nat.ble nl 1048576 = true ∧ old ++ l = new ∧ Nat.add len n = nl) false (.slice (some ⟨id2, 0, none⟩) nl nl) h)
        else bif Nat.beq k k' && wr then
          match appendA.shareA h c size e k' exact id fam full with
          | some (f, h) => match h.new (.cells c2 (Nat.mul nl k) elem k false true (some f)) with
            | (id2, h) => some (.mk (p ∧ q ∧ Nat.ble nl cap = false ∧ oneL l = true ∧ Nat.ble nl 1048576 = true ∧ old ++ l = new ∧ Nat.add len n = nl ∧ Nat.beq len cap = full) false (.slice (some ⟨id2, 0, none⟩) nl nl) h)
          | none => none
        else none
      else none
  | _, _ => none

/-- What is put behind: a row that is read, or a text. -/
def oFirst (h : AHeap) (k : Nat) (l : List Value) (n : Nat) : Value → Option Prop
  | .slice (some ⟨id, off, none⟩) m _ => match loadE h id off (Nat.mul m k) l with | some p => some (p ∧ m = n) | none => none
  | .string ⟨⟨s⟩⟩ => bif Nat.beq k 1 then some (ofBytes s = l ∧ lengthL s = n) else none
  | _ => none

def oApps (P : Program) (h : AHeap) (ts : List TypeId) (args : List Value) (l : List Value) (n : Nat) (old : Option (List Value × List Value × Nat × Bool)) : Option EvR :=
  match ts, args with
  | [st, xt], [s, x] =>
    match P.underlying st with
    | some (.slice elem) =>
      bif noIntT P xt then
        match sizeT P elem, P.info? elem with
        | some k, some i => match oFirst h k l n x with
          | some p => match s, old with
            | .slice (some ⟨id, off, none⟩) len cap, some (old, new, nl, full) => oApp P h elem k i id off len cap l n old new nl full p
            | .slice none 0 0, none =>
              bif zeroOk i && !Nat.beq i.size 0 && Nat.ble i.bytes 65536 then
                match PA.rowB false l with
                | .box c2 => match h.new (.cells c2 (Nat.mul n i.size) elem i.size false true none) with
                  | (id2, h) => some (.mk (p ∧ Nat.ble n 0 = false ∧ Nat.ble n 1048576 = true) false (.slice (some ⟨id2, 0, none⟩) n n) h)
              else none
            | _, _ => none
          | none => none
        | _, _ => none
      else none
    | _ => none
  | _, _ => none

/-- A slice of a slice. -/
def oSlice (h : AHeap) (k id off len cap : Nat) (lo hi : Option Value) (m e l : Nat) (q : Bool) : Option EvR :=
  match sliceA.objK h id 0, Nat.beq off 0 with
  | some (k', exact), true => bif exact || Nat.beq k k' then
      some (.mk (bound none cap cap = some m ∧ bound2 none hi len m = some e ∧ bound lo 0 e = some l ∧ Nat.beq m l = q) false
        (.slice (some ⟨id, bif q then off else Nat.add off (Nat.mul l k), none⟩) (Nat.sub e l) (Nat.sub m l)) h) else none
  | _, _ => none

/-- What the codes' row says of a character that is known: not a superscript. -/
def codeOf (h : AHeap) (cd : Nat) (c : UInt8) : Bool := match h.load cd c.toNat 1 with
  | some [.int .i64 cat] => !decide (cat = 7)
  | _ => false

def oexec (P : Program) (tm : PA Value) (h : AHeap) (e : Ev) (op : Op) : Option EvR :=
  match e with
  | .bin r => match op with
    | .binOp b t x y _ => match ev tm x, ev tm y with
      | some v, some w => some (.mk (abin P b t v w = some r) false r h)
      | _, _ => none
    | _ => none
  | .un r => match op with
    | .unOp b _ x => match ev tm x with
      | some v => some (.mk (aun P b v = some r) false r h)
      | none => none
    | _ => none
  | .load l => match op with
    | .load t a => match ev tm a, isAggT P t with
      | some (.pointer (some ⟨id, off, none⟩)), some true => match sizeT P t with
        | some n => match loadE h id off n l with | some p => some (.mk p false (.agg ⟨l⟩) h) | none => none
        | none => none
      | some (.pointer (some ⟨id, off, none⟩)), some false => match l with
        | [v] => match loadE h id off 1 [v] with | some p => some (.mk p false v h) | none => none
        | _ => none
      | _, _ => none
    | _ => none
  | .loadH l => match op with
    | .load t a => match ev tm a, isAggT P t with
      | some (.pointer (some ⟨id, off, none⟩)), some true => match sizeT P t with
        | some n => some (.mk (h.load id off n = some l) false (.agg ⟨l⟩) h)
        | none => none
      | some (.pointer (some ⟨id, off, none⟩)), some false => match l with
        | [v] => some (.mk (h.load id off 1 = some [v]) false v h)
        | _ => none
      | _, _ => none
    | _ => none
  | .addr => match op with
    | .indexAddr t x ix => match ev tm x, ev tm ix, P.underlying t with
      | some (.pointer (some ⟨id, off, none⟩)), some (.int _ i), some (.array len elem) => match asNat i, sizeT P elem with
        | some i, some k => some (.mk (Nat.ble (Nat.succ i) len = true) false (.pointer (some ⟨id, Nat.add off (Nat.mul i k), none⟩)) h)
        | _, _ => none
      | some (.slice (some ⟨id, off, none⟩) len _), some (.int _ i), some (.slice elem) => match asNat i, sizeT P elem with
        | some i, some k => some (.mk (Nat.ble (Nat.succ i) len = true) false (.pointer (some ⟨id, Nat.add off (Nat.mul i k), none⟩)) h)
        | _, _ => none
      | _, _, _ => none
    | _ => none
  | .index b => match op with
    | .index t x ix => match ev tm x, ev tm ix, P.underlying t with
      | some (.string ⟨⟨l⟩⟩), some (.int _ i), some .string => match asNat i with
        | some i => some (.mk (lnth l i = some b) false (.int .u8 (Int.ofNat b.toNat)) h)
        | none => none
      | _, _, _ => none
    | _ => none
  | .conv r => match op with
    | .convert s d x => match ev tm x with
      | some v => match P.underlying s, P.underlying d, v with
        | some (.int _), some (.int k), .int _ n => some (.mk (.int k (k.wrap n) = r) false r h)
        | some (.int _), some .string, .int _ n => some (.mk (.string (Utf8.encode n) = r) false r h)
        | _, _, _ => none
      | none => none
    | _ => none
  | .convB l b => match op with
    | .convert s d x => match ev tm x with
      | some v => match P.underlying s, P.underlying d, v with
        | some (.slice e), some .string, .slice (some ⟨id, off, none⟩) n _ => match P.underlying e with
          | some (.int .u8) => match loadE h id off n l with
            | some p => some (.mk (p ∧ bytesOf l = some b) false (.string ⟨⟨b⟩⟩) h)
            | none => none
          | _ => none
        | _, _, _ => none
      | none => none
    | _ => none
  | .slS r => match op with
    | .slice t x lo hi mx => match ev tm x, opt tm lo, opt tm hi, opt tm mx with
      | some (.string s), some lo, some hi, some none => match P.underlying t with
        | some .string => some (.mk (sliceA P h t (.string s) lo hi none = some (.string ⟨⟨r⟩⟩, h)) false (.string ⟨⟨r⟩⟩) h)
        | _ => none
      | _, _, _, _ => none
    | _ => none
  | .slB m e l q => match op with
    | .slice t x lo hi mx => match ev tm x, opt tm lo, opt tm hi, opt tm mx with
      | some (.slice (some ⟨id, off, none⟩) len cap), some lo, some hi, some none => match P.underlying t with
        | some (.slice el) => match sizeT P el with
          | some k => oSlice h k id off len cap lo hi m e l q
          | none => none
        | _ => none
      | _, _, _, _ => none
    | _ => none
  | .slH v => match op with
    | .slice t x lo hi mx => match ev tm x, opt tm lo, opt tm hi, opt tm mx with
      | some w, some lo, some hi, some none => some (.mk (sliceA P h t w lo hi none = some (v, h)) false v h)
      | _, _, _, _ => none
    | _ => none
  | .app l n old new nl full => match op with
    | .call c => match evs tm c.args.toList, c.callee with
      | some args, .builtin .append => oApps P h c.argTypes.toList args l n (some (old, new, nl, full))
      | _, _ => none
    | _ => none
  | .app0 l n => match op with
    | .call c => match evs tm c.args.toList, c.callee with
      | some args, .builtin .append => oApps P h c.argTypes.toList args l n none
      | _, _ => none
    | _ => none
  | .look r => match op with
    | .lookup t x ix ok => match ev tm x, ev tm ix, P.underlying t with
      | some (.map (some m)), some k, some (.map kt et) =>
        bif keyT P kt k then match h.obj m with
          | some (.map es _) => match r with
            | some v => some (.mk (findE k es = some (some v)) false (bif ok then .tuple ⟨[v, .bool true]⟩ else v) h)
            | none => match zeroT P et with
              | some z => some (.mk (findE k es = some none) false (bif ok then .tuple ⟨[z, .bool false]⟩ else z) h)
              | none => none
          | _ => none
        else none
      | _, _, _ => none
    | _ => none
  | .upd es' => match op with
    | .mapUpdate t m k x => match ev tm m, ev tm k, ev tm x, P.underlying t with
      | some (.map (some r)), some k, some v, some (.map kt _) =>
        bif keyT P kt k then
          match h.obj r with
          | some (.map es ver) => some (.mk (putE k v es = some es') true undef (h.setObj r (.map es' (Nat.succ ver))))
          | _ => none
        else none
      | _, _, _, _ => none
    | _ => none
  | .ibs r => match op with
    | .call c => match evs tm c.args.toList, c.callee with
      | some [.string ⟨⟨s⟩⟩, .int .u8 n], .value f => match ev tm f with
        | some (.func (.func g) ⟨[]⟩ ⟨[]⟩) => bif isIndexByteString P g && Nat.ble n.toNat 255 then some (.mk (indexByteA s n.toNat 0 = r) false (.int .i64 r) h) else none
        | _ => none
      | _, _ => none
    | _ => none
  | .call v => match execF op P tm h with
    | some (.enter f args) => some (.mk (CallV P f args v) false v h)
    | _ => none
  | .char at_ c cat => match execF op P tm h with
    | some (.enter f [.pointer (some ⟨r, 0, none⟩), .pointer (some ⟨cd, 0, none⟩)]) =>
      match h.load r 4 1, h.load r 5 1 with
      | some [.slice (some ⟨b, 0, none⟩) len cap], some [.int .i64 n] => match sliceA.objK h b 0 with
        | some (k, ex) => bif ex || Nat.beq 1 k then match loadE h b at_ 1 [.int .u8 (Int.ofNat c.toNat)], loadE h cd c.toNat 1 [.int .i64 cat] with
            | some p, some q => some (.mk (CharOk P f ∧ n = Int.ofNat at_ ∧ at_ < len ∧ len ≤ cap ∧ len < 2 ^ 63 ∧ p ∧ q ∧ cat ≠ 7) false (.tuple ⟨[.int .u8 (Int.ofNat c.toNat), .bool true]⟩) h)
            | _, _ => none
          else none
        | none => none
      | _, _ => none
    | _ => none
  | .charK at_ c => match execF op P tm h with
    | some (.enter f [.pointer (some ⟨r, 0, none⟩), .pointer (some ⟨cd, 0, none⟩)]) =>
      match h.load r 4 1, h.load r 5 1 with
      | some [.slice (some ⟨b, 0, none⟩) len cap], some [.int .i64 n] => match sliceA.objK h b 0 with
        | some (k, ex) => bif (ex || Nat.beq 1 k) && codeOf h cd c then match loadE h b at_ 1 [.int .u8 (Int.ofNat c.toNat)] with
            | some p => some (.mk (CharOk P f ∧ n = Int.ofNat at_ ∧ at_ < len ∧ len ≤ cap ∧ len < 2 ^ 63 ∧ p) false (.tuple ⟨[.int .u8 (Int.ofNat c.toNat), .bool true]⟩) h)
            | none => none
          else none
        | none => none
      | _, _ => none
    | _ => none
  | .charC => match execF op P tm h with
    | some (.enter f [.pointer (some ⟨r, 0, none⟩), .pointer (some ⟨cd, 0, none⟩)]) =>
      match h.load r 4 1, h.load r 5 1 with
      | some [.slice (some ⟨b, 0, none⟩) len cap], some [.int .i64 (.ofNat at_)] => match sliceA.objK h b 0 with
        | some (k, ex) => match h.load b at_ 1 with
          | some [.int .u8 (.ofNat n)] => bif (ex || Nat.beq 1 k) && codeOf h cd (UInt8.ofNat n) && Nat.ble n 255 && Nat.ble (Nat.succ at_) len then
              some (.mk (CharOk P f ∧ len ≤ cap ∧ len < 2 ^ 63) false (.tuple ⟨[.int .u8 (Int.ofNat n), .bool true]⟩) h)
            else none
          | _ => none
        | none => none
      | _, _ => none
    | _ => none
  | .ret => none
  | .light => none

/-- A light operation that reads, once more: what has to be the same. -/
def oagain (P : Program) (tm : PA Value) (h : AHeap) (o : Oper) : Option Prop :=
  match o.dst with
  | none => none
  | some d => match tm.get d, execA P tm h o with
    | some old, some (.value v h') => bif Nat.beq (lightKind o) 1 && Nat.beq h'.next h.next then some (sameV old v = true) else none
    | _, _ => none

def ovalidate (P : Program) (ops : List Oper) (tm : PA Value) (h : AHeap) : List Nat → Option Prop
  | [] => some True
  | i :: l => match lnth ops i with
    | some o => match wantedA ops tm o.guard with
      | some true => match oagain P tm h o, ovalidate P ops tm h l with
        | some p, some q => some (p ∧ q)
        | _, _ => none
      | some false => ovalidate P ops tm h l
      | none => none
    | none => none

/-- A value comes to a frame that is at a call, in a region that draws. -/
def finO (P : Program) (fr : AFrame) (h : AHeap) (v : Value) : Option (Prop × AFrame) :=
  match fr with
  | ⟨fn, nt, tm, .drawR ops (i :: rest) :: k, ds, false, kd, ro⟩ => match lnth ops.toList i with
    | some o => match putDst nt tm o.dst v with
      | some tm => bif heavy o then
          match ovalidate P ops.toList tm h (cross ops i) with
          | some p => some (p, ⟨fn, nt, tm, .drawR ops rest :: k, ds, false, kd, ro⟩)
          | none => none
        else match ovalidate P ops.toList tm h (prefixL ops i o) with
          | some p => some (p, ⟨fn, nt, tm, .drawR ops rest :: k, ds, false, kd, ro⟩)
          | none => none
      | none => none
    | none => none
  | _ => none

/-- A light operation in a region that draws: what is read there once more is told. -/
def olight (P : Program) (S : AM) : Option (EvR × AM) :=
  match opW S with
  | some op => match execF op P S.frame.tmps S.heap with
    | some (.value v h) => match finO P S.frame h v with
      | some (p, fr) => some (.mk p false v h, ⟨fr, S.callers, h⟩)
      | none => none
    | _ => none
  | none => none

/-- A return to a region that draws: what is read there once more is told. -/
def oret (P : Program) (S : AM) : Option (EvR × AM) :=
  match S with
  | ⟨⟨fn, _, tm, _, [], true, .normal, _⟩, c :: cs, h⟩ => match resultA P fn tm h with
    | some v => match finO P c h v with
      | some (p, c) => some (.mk p false v h, ⟨c, cs, h⟩)
      | none => none
    | none => none
  | _ => none

/-- The operation that is next, with what is told of it. -/
def ostep1 (P : Program) (e : Ev) (S : AM) : Option (EvR × AM) :=
  match opW S with
  | some op => match oexec P S.frame.tmps S.heap e op with
    | some (.mk p sk v h) => match finS P S v h with
      | some S2 => some (.mk p sk v h, S2)
      | none => none
    | none => none
  | none => none

def ostep (P : Program) (e : Ev) (S : AM) : Option (EvR × AM) :=
  match e with
  | .ret => oret P S
  | .light => olight P S
  | e => ostep1 P e S

/-- What is to be shown, and where one comes to. -/
inductive Got where
  | mk (p : Prop) (S : AM)

/-- So many steps, then an operation that is told; and so on. -/
def orun (P : Program) : List (Nat × Ev) → Nat → AM → Option Got
  | [], m, S => match frun P m S with
    | some S => some (.mk True S)
    | none => none
  | (n, e) :: l, m, S => match frun P n S with
    | some S => match ostep P e S with
      | some (.mk p _ _ _, S) => match orun P l m S with
        | some (.mk q S) => some (.mk (p ∧ q) S)
        | none => none
      | none => none
    | none => none

/-- Where one comes to. -/
def orunS (P : Program) (l : List (Nat × Ev)) (m : Nat) (S : AM) : AM := match orun P l m S with
  | some (.mk _ S) => S
  | none => S

/-- The blocks that are kept as they are have no addresses. -/
def keptP (h : AHeap) : List (Nat × Bool) → Prop
  | [] => True
  | (id, q) :: l => match q with
    | true => (match h.objs.get id with | some o => PlainO o | none => True) ∧ keptP h l
    | false => keptP h l

/-- The same, and the last state is made small. -/
def ocanon (P : Program) (l : List (Nat × Ev)) (m : Nat) (keep : List (Nat × Bool)) (top : List Tmp) (slots : List (List Tmp)) (S : AM) : Option Got :=
  match orun P l m S with
  | some (.mk p S) => match canon keep top slots S with
    | some S2 => some (.mk (p ∧ keptP S.heap keep) S2)
    | none => none
  | none => none
end

section
variable {P : Program}

theorem loadE_ok {h : AHeap} {id off n : Nat} {l : List Value} {p : Prop} (he : loadE h id off n l = some p) (hp : p) : h.load id off n = some l := by
  obtain ⟨objs, next, fams⟩ := h
  unfold loadE at he
  split at he
  · rename_i c size _ _ _ _ fam ho
    have ho : objs.get id = _ := ho
    cases hg : AHeap.good ⟨objs, next, fams⟩ id fam with
    | false => rw [hg] at he; cases he
    | true =>
      rw [hg] at he
      simp only [cond_true, Option.some.injEq] at he
      subst he
      simp only [AHeap.load, ho, hg, hp.1, Bool.and_self, cond_true, hp.2]
  · cases he

end
end Go.Abs

/- What the runs of GalTrace say of the real machine. -/

namespace Go.Abs
section
variable {P : Program}

theorem oFirst_ok {h : AHeap} {k n : Nat} {l : List Value} {x : Value} {p : Prop} (he : oFirst h k l n x = some p) (hp : p) : afirst h k x = some (l, n) := by
  unfold oFirst at he
  split at he
  · rename_i id off m c
    split at he
    · rename_i p' hl
      simp only [Option.some.injEq] at he; subst he
      obtain ⟨h1, rfl⟩ := hp
      simp only [afirst, loadE_ok hl h1]
    · cases he
  · rename_i s
    cases hk : Nat.beq k 1 with
    | false => rw [hk] at he; cases he
    | true =>
      rw [hk] at he
      simp only [cond_true, Option.some.injEq] at he; subst he
      obtain ⟨rfl, rfl⟩ := hp
      simp only [afirst, hk, cond_true]
  · cases he

theorem and4 {a b c d : Bool} (h : (a && b && c && d) = true) : a = true ∧ b = true ∧ c = true ∧ d = true := by
  revert h; cases a <;> cases b <;> cases c <;> cases d <;> simp

theorem oApp_ok {h h2 : AHeap} {elem k id off len cap n nl : Nat} {i : TypeInfo} {l old new : List Value} {full sk : Bool} {p q : Prop} {v : Value}
    (he : oApp P h elem k i id off len cap l n old new nl full p = some (.mk q sk v h2)) (hq : q) (hi : P.info? elem = some i) : p ∧ sk = false ∧ appendA P h elem (.slice (some ⟨id, off, none⟩) len cap) l n = some (v, h2) := by
  unfold oApp at he
  split at he
  · rename_i q1 c size e k' exact wr fam hl ho
    split at he
    · rename_i c2 hc2
      cases hz : (zeroOk i && !Nat.beq i.size 0 && Nat.ble i.bytes 65536 && Nat.beq i.size k) with
      | false => rw [hz] at he; cases he
      | true =>
        rw [hz] at he
        obtain ⟨z1, z2, z3, z4⟩ := and4 hz
        have z4 := Nat.eq_of_beq_eq_true z4
        subst z4
        simp only [cond_true] at he
        cases exact with
        | true =>
          simp only [cond_true, Option.some.injEq, EvR.mk.injEq] at he
          obtain ⟨rfl, rfl, rfl, rfl⟩ := he
          obtain ⟨a1, a2, a3, a4, a5, rfl, rfl⟩ := hq
          refine ⟨a1, rfl, ?_⟩
          have ho : AHeap.obj h id = _ := ho
          simp only [appendA, hi, a3, cond_false, z1, a4, z2, a5, z3, Bool.and_self, cond_true, appendA.growA, loadE_ok hl a2, ho, hc2]
        | false =>
          simp only [cond_false] at he
          cases hw : (Nat.beq i.size k' && wr) with
          | false => rw [hw] at he; cases he
          | true =>
            rw [hw] at he
            simp only [cond_true] at he
            split at he
            · rename_i f h3 hs
              simp only [Option.some.injEq, EvR.mk.injEq] at he
              obtain ⟨rfl, rfl, rfl, rfl⟩ := he
              obtain ⟨a1, a2, a3, a4, a5, rfl, rfl, a6⟩ := hq
              refine ⟨a1, rfl, ?_⟩
              have ho : AHeap.obj h id = _ := ho
              simp only [appendA, hi, a3, cond_false, z1, a4, z2, a5, z3, Bool.and_self, cond_true, appendA.growA, loadE_ok hl a2, ho, hc2, cond_false, hw, cond_true, a6, hs]
            · cases he
  · cases he

theorem oApps_ok {h h2 : AHeap} {ts : List TypeId} {args l : List Value} {n : Nat} {old : Option (List Value × List Value × Nat × Bool)} {q : Prop} {sk : Bool} {v : Value}
    (he : oApps P h ts args l n old = some (.mk q sk v h2)) (hq : q) : sk = false ∧ builtinA P h .append ts args = some (.value v h2) := by
  unfold oApps at he
  split at he
  · rename_i st xt s x
    split at he
    · rename_i elem hu
      cases hx : noIntT P xt with
      | false => rw [hx] at he; cases he
      | true =>
        rw [hx] at he
        simp only [cond_true] at he
        split at he
        · rename_i k i hk hi
          split at he
          · rename_i p hf
            split at he
            · rename_i id off len cap old new nl full
              obtain ⟨a1, a2, a3⟩ := oApp_ok he hq hi
              subst a2
              refine ⟨rfl, ?_⟩
              simp only [builtinA, hu, hx, cond_true, hk, oFirst_ok hf a1, a3]
            · cases hz : (zeroOk i && !Nat.beq i.size 0 && Nat.ble i.bytes 65536) with
              | false => rw [hz] at he; cases he
              | true =>
                rw [hz] at he
                simp only [cond_true, PA.rowB, cond_false, Option.some.injEq, EvR.mk.injEq] at he
                obtain ⟨rfl, rfl, rfl, rfl⟩ := he
                obtain ⟨a1, a2, a3⟩ := hq
                refine ⟨rfl, ?_⟩
                simp only [Bool.and_eq_true] at hz
                obtain ⟨⟨z1, z2⟩, z3⟩ := hz
                have hb : Nat.beq 0 0 = true := rfl
                simp only [builtinA, hu, hx, cond_true, hk, oFirst_ok hf a1, appendA, hi, Nat.add_eq, Nat.zero_add, a2, cond_false, z1, z2, a3, z3, hb, Bool.and_self, PA.rowB, cond_true]
            · cases he
          · cases he
        · cases he
    · cases he
  · cases he

theorem objK_zero {h : AHeap} {id k : Nat} {ex : Bool} : sliceA.objK h id 0 = some (k, ex) → ∃ c size e wr fam, h.obj id = some (.cells c size e k ex wr fam) ∧ h.good id fam = true := by
  intro he
  unfold sliceA.objK at he
  split at he
  · rename_i c size e k' ex' wr fam ho
    cases hg : h.good id fam && Nat.ble 0 size with
    | false => rw [hg] at he; cases he
    | true =>
      rw [hg] at he
      simp only [cond_true, Option.some.injEq, Prod.mk.injEq] at he
      obtain ⟨rfl, rfl⟩ := he
      simp only [Bool.and_eq_true] at hg
      exact ⟨c, size, e, wr, fam, ho, hg.1⟩
  · cases he

theorem oSlice_ok {h h2 : AHeap} {t el k id off len cap m e l : Nat} {lo hi : Option Value} {q sk : Bool} {p : Prop} {v : Value} (hu : P.underlying t = some (.slice el)) (hk : sizeT P el = some k)
    (he : oSlice h k id off len cap lo hi m e l q = some (.mk p sk v h2)) (hp : p) : sk = false ∧ sliceA P h t (.slice (some ⟨id, off, none⟩) len cap) lo hi none = some (v, h2) := by
  unfold oSlice at he
  split at he
  · rename_i k' ex ho hz
    cases hb : (ex || Nat.beq k k') with
    | false => rw [hb] at he; cases he
    | true =>
      rw [hb] at he
      simp only [cond_true, Option.some.injEq, EvR.mk.injEq] at he
      obtain ⟨rfl, rfl, rfl, rfl⟩ := he
      obtain ⟨a1, a2, a3, a4⟩ := hp
      have hz := Nat.eq_of_beq_eq_true hz
      subst hz
      exact ⟨rfl, by simp only [sliceA, hu, hk, a1, a2, a3, ho, hb, cond_true, a4]⟩
  · cases he

theorem codeOf_ok {h : AHeap} {cd : Nat} {c : UInt8} (he : codeOf h cd c = true) : ∃ cat, h.load cd c.toNat 1 = some [.int .i64 cat] ∧ cat ≠ 7 := by
  unfold codeOf at he
  split at he
  · rename_i cat hl
    refine ⟨cat, hl, fun h7 => ?_⟩
    subst h7
    cases he
  · cases he

theorem ostep1_ok (K : ProgOk P) {e : Ev} {S S2 : AM} {p : Prop} {sk : Bool} {v : Value} {h2 : AHeap} {Q : AM → Prop} (he : ostep1 P e S = some (.mk p sk v h2, S2)) (hp : p) (h' : Goes P S2 Q) : Goes P S Q := by
  unfold ostep1 at he
  split at he
  · rename_i op ho
    split at he
    · rename_i p' sk' v' h2' hx
      split at he
      · rename_i S2' hf
        simp only [Option.some.injEq, Prod.mk.injEq, EvR.mk.injEq] at he
        obtain ⟨⟨rfl, rfl, rfl, rfl⟩, rfl⟩ := he
        have hf1 : (finS P S v' h2').isSome = true := by rw [hf]; rfl
        have hfin : fin1 P S v' h2' = S2' := by simp only [fin1, hf]
        have val : sk' = false → execF op P S.frame.tmps S.heap = some (.value v' h2') → Goes P S Q := fun _ hv => Goes.op K v' h2' ho hv hf1 (by rw [hfin]; exact h')
        cases e with
        | bin r =>
          unfold oexec at hx
          simp only at hx
          split at hx
          · rename_i b t x y ty
            split at hx
            · rename_i v w h1 h3
              simp only [Option.some.injEq, EvR.mk.injEq] at hx
              obtain ⟨rfl, rfl, rfl, rfl⟩ := hx
              refine val rfl ?_
              show x_binOp b t x y ty P _ _ = _
              simp only [x_binOp, h1, h3, hp]
            · cases hx
          · cases hx
        | un r =>
          unfold oexec at hx
          simp only at hx
          split at hx
          · rename_i b ty x
            split at hx
            · rename_i v h1
              simp only [Option.some.injEq, EvR.mk.injEq] at hx
              obtain ⟨rfl, rfl, rfl, rfl⟩ := hx
              refine val rfl ?_
              show x_unOp b ty x P _ _ = _
              simp only [x_unOp, h1, hp]
            · cases hx
          · cases hx
        | load l =>
          unfold oexec at hx
          simp only at hx
          split at hx
          · rename_i t a
            split at hx
            · rename_i id off h1 h3
              split at hx
              · rename_i n hn
                split at hx
                · rename_i q hq
                  simp only [Option.some.injEq, EvR.mk.injEq] at hx
                  obtain ⟨rfl, rfl, rfl, rfl⟩ := hx
                  refine val rfl ?_
                  show x_load t a P _ _ = _
                  simp only [x_load, h1, h3, hn, loadE_ok hq hp]
                · cases hx
              · cases hx
            · rename_i id off h1 h3
              split at hx
              · split at hx
                · rename_i q hq
                  simp only [Option.some.injEq, EvR.mk.injEq] at hx
                  obtain ⟨rfl, rfl, rfl, rfl⟩ := hx
                  refine val rfl ?_
                  show x_load t a P _ _ = _
                  simp only [x_load, h1, h3, loadE_ok hq hp]
                · cases hx
              · cases hx
            · cases hx
          · cases hx
        | loadH l =>
          unfold oexec at hx
          simp only at hx
          split at hx
          · rename_i t a
            split at hx
            · rename_i id off h1 h3
              split at hx
              · rename_i n hn
                simp only [Option.some.injEq, EvR.mk.injEq] at hx
                obtain ⟨rfl, rfl, rfl, rfl⟩ := hx
                refine val rfl ?_
                show x_load t a P _ _ = _
                simp only [x_load, h1, h3, hn, hp]
              · cases hx
            · rename_i id off h1 h3
              split at hx
              · simp only [Option.some.injEq, EvR.mk.injEq] at hx
                obtain ⟨rfl, rfl, rfl, rfl⟩ := hx
                refine val rfl ?_
                show x_load t a P _ _ = _
                simp only [x_load, h1, h3, hp]
              · cases hx
            · cases hx
          · cases hx
        | addr =>
          unfold oexec at hx
          simp only at hx
          split at hx
          · rename_i t x ix
            split at hx
            · rename_i id off ik i len elem h1 h3 h4
              split at hx
              · rename_i j k h5 h6
                simp only [Option.some.injEq, EvR.mk.injEq] at hx
                obtain ⟨rfl, rfl, rfl, rfl⟩ := hx
                refine val rfl ?_
                show x_indexAddr t x ix P _ _ = _
                simp only [x_indexAddr, h1, h3, h4, h5, h6, hp, cond_true]
              · cases hx
            · rename_i id off len cap ik i elem h1 h3 h4
              split at hx
              · rename_i j k h5 h6
                simp only [Option.some.injEq, EvR.mk.injEq] at hx
                obtain ⟨rfl, rfl, rfl, rfl⟩ := hx
                refine val rfl ?_
                show x_indexAddr t x ix P _ _ = _
                simp only [x_indexAddr, h1, h3, h4, h5, h6, hp, cond_true]
              · cases hx
            · cases hx
          · cases hx
        | index b =>
          unfold oexec at hx
          simp only at hx
          split at hx
          · rename_i t x ix
            split at hx
            · rename_i l ik i h1 h3 h4
              split at hx
              · rename_i j h5
                simp only [Option.some.injEq, EvR.mk.injEq] at hx
                obtain ⟨rfl, rfl, rfl, rfl⟩ := hx
                refine val rfl ?_
                show x_index t x ix P _ _ = _
                simp only [x_index, h1, h3, h4, h5, hp]
                rfl
              · cases hx
            · cases hx
          · cases hx
        | conv r =>
          unfold oexec at hx
          simp only at hx
          split at hx
          · rename_i s d x
            split at hx
            · rename_i w h1
              split at hx
              · rename_i k1 k2 k3 n h3 h4
                simp only [Option.some.injEq, EvR.mk.injEq] at hx
                obtain ⟨rfl, rfl, rfl, rfl⟩ := hx
                refine val rfl ?_
                show x_convert s d x P _ _ = _
                simp only [x_convert, h1, convertA, h3, h4, hp]
              · rename_i k1 k2 n h3 h4
                simp only [Option.some.injEq, EvR.mk.injEq] at hx
                obtain ⟨rfl, rfl, rfl, rfl⟩ := hx
                refine val rfl ?_
                show x_convert s d x P _ _ = _
                simp only [x_convert, h1, convertA, h3, h4, hp]
              · cases hx
            · cases hx
          · cases hx
        | convB l b =>
          unfold oexec at hx
          simp only at hx
          split at hx
          · rename_i s d x
            split at hx
            · rename_i w h1
              split at hx
              · rename_i el id off n cap h3 h4
                split at hx
                · rename_i h5
                  split at hx
                  · rename_i q hq
                    simp only [Option.some.injEq, EvR.mk.injEq] at hx
                    obtain ⟨rfl, rfl, rfl, rfl⟩ := hx
                    refine val rfl ?_
                    show x_convert s d x P _ _ = _
                    simp only [x_convert, h1, convertA, h3, h4, h5, loadE_ok hq hp.1, hp.2]
                  · cases hx
                · cases hx
              · cases hx
            · cases hx
          · cases hx
        | slS r =>
          unfold oexec at hx
          simp only at hx
          split at hx
          · rename_i t x lo hi mx
            split at hx
            · rename_i s lo' hi' h1 h3 h4 h5
              split at hx
              · simp only [Option.some.injEq, EvR.mk.injEq] at hx
                obtain ⟨rfl, rfl, rfl, rfl⟩ := hx
                refine val rfl ?_
                show x_slice t x lo hi mx P _ _ = _
                simp only [x_slice, h1, h3, h4, h5, hp]
              · cases hx
            · cases hx
          · cases hx
        | slB m e l q =>
          unfold oexec at hx
          simp only at hx
          split at hx
          · rename_i t x lo hi mx
            split at hx
            · rename_i id off len cap lo' hi' h1 h3 h4 h5
              split at hx
              · rename_i el hu
                split at hx
                · rename_i k hk
                  obtain ⟨rfl, a2⟩ := oSlice_ok hu hk hx hp
                  refine val rfl ?_
                  show x_slice t x lo hi mx P _ _ = _
                  simp only [x_slice, h1, h3, h4, h5, a2]
                · cases hx
              · cases hx
            · cases hx
          · cases hx
        | slH r =>
          unfold oexec at hx
          simp only at hx
          split at hx
          · rename_i t x lo hi mx
            split at hx
            · rename_i w lo' hi' h1 h3 h4 h5
              simp only [Option.some.injEq, EvR.mk.injEq] at hx
              obtain ⟨rfl, rfl, rfl, rfl⟩ := hx
              refine val rfl ?_
              show x_slice t x lo hi mx P _ _ = _
              simp only [x_slice, h1, h3, h4, h5, hp]
            · cases hx
          · cases hx
        | app l n old new nl full =>
          unfold oexec at hx
          simp only at hx
          split at hx
          · rename_i c
            split at hx
            · rename_i args h1 h3
              obtain ⟨rfl, a2⟩ := oApps_ok hx hp
              refine val rfl ?_
              show x_call c P _ _ = _
              simp only [x_call, h1, h3, a2]
            · cases hx
          · cases hx
        | app0 l n =>
          unfold oexec at hx
          simp only at hx
          split at hx
          · rename_i c
            split at hx
            · rename_i args h1 h3
              obtain ⟨rfl, a2⟩ := oApps_ok hx hp
              refine val rfl ?_
              show x_call c P _ _ = _
              simp only [x_call, h1, h3, a2]
            · cases hx
          · cases hx
        | look r =>
          unfold oexec at hx
          simp only at hx
          split at hx
          · rename_i t x ix ok
            split at hx
            · rename_i m k kt et h1 h3 h4
              cases hkt : keyT P kt k with
              | false => rw [hkt] at hx; cases hx
              | true =>
                rw [hkt] at hx
                simp only [cond_true] at hx
                split at hx
                · rename_i es ver hom
                  split at hx
                  · simp only [Option.some.injEq, EvR.mk.injEq] at hx
                    obtain ⟨rfl, rfl, rfl, rfl⟩ := hx
                    exact val rfl (execF_lookup_some h1 h3 h4 hom hkt hp)
                  · split at hx
                    · rename_i z hz
                      simp only [Option.some.injEq, EvR.mk.injEq] at hx
                      obtain ⟨rfl, rfl, rfl, rfl⟩ := hx
                      exact val rfl (execF_lookup h1 h3 h4 hom hkt hp hz)
                    · cases hx
                · cases hx
            · cases hx
          · cases hx
        | upd es' =>
          unfold oexec at hx
          simp only at hx
          split at hx
          · rename_i t m k x
            split at hx
            · rename_i r kv w kt et h1 h3 h4 h5
              cases hkt : keyT P kt kv with
              | false => rw [hkt] at hx; cases hx
              | true =>
                rw [hkt] at hx
                simp only [cond_true] at hx
                split at hx
                · rename_i es ver hom
                  simp only [Option.some.injEq, EvR.mk.injEq] at hx
                  obtain ⟨rfl, rfl, rfl, rfl⟩ := hx
                  refine Goes.opSkip K _ ho (?_ : execF (.mapUpdate t m k x) P _ _ = _) hf1 (by rw [hfin]; exact h')
                  show x_mapUpdate t m k x P _ _ = _
                  simp only [x_mapUpdate, h1, h3, h4, h5, hkt, cond_true, hom, hp]
                · cases hx
            · cases hx
          · cases hx
        | ibs r =>
          unfold oexec at hx
          simp only at hx
          split at hx
          · rename_i c
            split at hx
            · rename_i s n f h1 h3
              split at hx
              · rename_i g hg
                cases hz : isIndexByteString P g && Nat.ble n.toNat 255 with
                | false => rw [hz] at hx; cases hx
                | true =>
                  rw [hz] at hx
                  simp only [cond_true, Option.some.injEq, EvR.mk.injEq] at hx
                  obtain ⟨rfl, rfl, rfl, rfl⟩ := hx
                  simp only [Bool.and_eq_true] at hz
                  refine val rfl ?_
                  show x_call c P _ _ = _
                  simp only [x_call, h1, h3, hg, callValueA, hz.1, cond_true, hz.2, hp]
              · cases hx
            · cases hx
          · cases hx
        | call v =>
          unfold oexec at hx
          simp only at hx
          split at hx
          · rename_i f args hen
            simp only [Option.some.injEq, EvR.mk.injEq] at hx
            obtain ⟨rfl, rfl, rfl, rfl⟩ := hx
            exact hp (opS_of ho hen) hf1 (by rw [hfin]; exact h')
          · cases hx
        | char at_ c cat =>
          unfold oexec at hx
          simp only at hx
          split at hx
          · rename_i f r cd hen
            split at hx
            · rename_i b len cap n h4 h5
              split at hx
              · rename_i k ex hk
                cases hb : (ex || Nat.beq 1 k) with
                | false => rw [hb] at hx; cases hx
                | true =>
                  rw [hb] at hx
                  simp only [cond_true] at hx
                  split at hx
                  · rename_i p1 q1 hp1 hq1
                    simp only [Option.some.injEq, EvR.mk.injEq] at hx
                    obtain ⟨rfl, rfl, rfl, rfl⟩ := hx
                    obtain ⟨c1, rfl, c3, c4, c5, c6, c7, c8⟩ := hp
                    exact c1 (opS_of ho hen) h5 h4 c3 c4 c5 hk hb (loadE_ok hp1 c6) (loadE_ok hq1 c7) c8 hf1 (by rw [hfin]; exact h')
                  · cases hx
              · cases hx
            · cases hx
          · cases hx
        | charK at_ c =>
          unfold oexec at hx
          simp only at hx
          split at hx
          · rename_i f r cd hen
            split at hx
            · rename_i b len cap n h4 h5
              split at hx
              · rename_i k ex hk
                cases hb : (ex || Nat.beq 1 k) && codeOf S.heap cd c with
                | false => rw [hb] at hx; cases hx
                | true =>
                  rw [hb] at hx
                  simp only [Bool.and_eq_true] at hb
                  obtain ⟨cat, hc1, hc2⟩ := codeOf_ok hb.2
                  simp only [cond_true] at hx
                  split at hx
                  · rename_i p1 hp1
                    simp only [Option.some.injEq, EvR.mk.injEq] at hx
                    obtain ⟨rfl, rfl, rfl, rfl⟩ := hx
                    obtain ⟨c1, rfl, c3, c4, c5, c6⟩ := hp
                    exact c1 (opS_of ho hen) h5 h4 c3 c4 c5 hk hb.1 (loadE_ok hp1 c6) hc1 hc2 hf1 (by rw [hfin]; exact h')
                  · cases hx
              · cases hx
            · cases hx
          · cases hx
        | ret => cases hx
        | light => cases hx
        | charC =>
          unfold oexec at hx
          simp only at hx
          split at hx
          · rename_i f r cd hen
            split at hx
            · rename_i b len cap at_ h4 h5
              split at hx
              · rename_i k ex hk
                split at hx
                · rename_i n hl
                  cases hb : (ex || Nat.beq 1 k) && codeOf S.heap cd (UInt8.ofNat n) && Nat.ble n 255 && Nat.ble (Nat.succ at_) len with
                  | false => rw [hb] at hx; cases hx
                  | true =>
                    rw [hb] at hx
                    obtain ⟨b1, b2, b3, b4⟩ := and4 hb
                    obtain ⟨cat, hc1, hc2⟩ := codeOf_ok b2
                    simp only [cond_true, Option.some.injEq, EvR.mk.injEq] at hx
                    obtain ⟨rfl, rfl, rfl, rfl⟩ := hx
                    obtain ⟨c1, c4, c5⟩ := hp
                    have b3 : n ≤ 255 := by rwa [Nat.ble_eq] at b3
                    have b4 : at_ + 1 ≤ len := by rwa [Nat.ble_eq] at b4
                    have en : (UInt8.ofNat n).toNat = n := by
                      rw [UInt8.toNat_ofNat']
                      exact Nat.mod_eq_of_lt (by omega)
                    have h5' : S.heap.load r 5 1 = some [.int .i64 (Int.ofNat at_)] := h5
                    exact c1 (c := UInt8.ofNat n) (opS_of ho hen) h5' h4 b4 c4 c5 hk b1 (by rw [en]; exact hl) hc1 hc2 (by rw [en]; exact hf1) (by rw [en, hfin]; exact h')
                · cases hx
              · cases hx
            · cases hx
          · cases hx
      · cases he
    · cases he
  · cases he

theorem ovalidate_ok {ops : List Oper} {tm : PA Value} {h : AHeap} : ∀ {l : List Nat} {p : Prop}, ovalidate P ops tm h l = some p → p → validate P ops tm h l = true
  | [], _, _, _ => rfl
  | i :: l, p, he, hp => by
    unfold ovalidate at he
    unfold validate
    split at he
    · rename_i o ho
      rw [ho]
      simp only
      split at he
      · rename_i hw
        rw [hw]
        simp only
        split at he
        · rename_i p1 q1 h1 h3
          simp only [Option.some.injEq] at he; subst he
          have e1 : again P tm h o = true := by
            unfold oagain at h1
            unfold again
            split at h1
            · cases h1
            · rename_i d hd
              rw [hd]
              simp only
              split at h1
              · rename_i old v h' ho1 ho2
                rw [ho1, ho2]
                simp only
                cases hb : Nat.beq (lightKind o) 1 && Nat.beq h'.next h.next with
                | false => rw [hb] at h1; cases h1
                | true =>
                  rw [hb] at h1
                  simp only [cond_true, Option.some.injEq] at h1
                  simp only [Bool.and_eq_true] at hb
                  rw [hb.1, hb.2, cond_true, Bool.true_and]
                  rw [← h1] at hp
                  exact hp.1
              · cases h1
          rw [e1, ovalidate_ok h3 hp.2]; rfl
        · cases he
      · rename_i hw
        rw [hw]
        exact ovalidate_ok he hp
      · cases he
    · cases he

theorem finO_ok {c c1 : AFrame} {h : AHeap} {v : Value} {p : Prop} (hf : finO P c h v = some (p, c1)) (hp : p) : finishA P c h v = some c1 := by
  unfold finO at hf
  split at hf
  · rename_i fn2 nt2 tm2 ops i rest k ds2 kd2 ro2
    split at hf
    · rename_i o ho
      split at hf
      · rename_i tm3 ht
        cases hh : heavy o with
        | false =>
          rw [hh] at hf
          simp only [cond_false] at hf
          split at hf
          · rename_i q hq
            simp only [Option.some.injEq, Prod.mk.injEq] at hf
            obtain ⟨rfl, rfl⟩ := hf
            simp only [finishA, ho, ht, hh, cond_false, ovalidate_ok hq hp, Bool.or_true, cond_true]
          · cases hf
        | true =>
          rw [hh] at hf
          simp only [cond_true] at hf
          split at hf
          · rename_i q hq
            simp only [Option.some.injEq, Prod.mk.injEq] at hf
            obtain ⟨rfl, rfl⟩ := hf
            simp only [finishA, ho, ht, hh, cond_true, ovalidate_ok hq hp]
          · cases hf
      · cases hf
    · cases hf
  · cases hf

theorem finO_ret {c c1 : AFrame} {h : AHeap} {v : Value} {p : Prop} (hf : finO P c h v = some (p, c1)) : c.ret = false := by
  unfold finO at hf
  split at hf
  · rfl
  · cases hf

theorem oret_ok (K : ProgOk P) {S S2 : AM} {p : Prop} {sk : Bool} {v : Value} {h2 : AHeap} {Q : AM → Prop} (he : oret P S = some (.mk p sk v h2, S2)) (hp : p) (h' : Goes P S2 Q) : Goes P S Q := by
  unfold oret at he
  split at he
  · rename_i fn nt tm todo ro c cs h
    split at he
    · rename_i v1 hv
      split at he
      · rename_i p1 c1 hf
        simp only [Option.some.injEq, Prod.mk.injEq, EvR.mk.injEq] at he
        obtain ⟨⟨rfl, rfl, rfl, rfl⟩, rfl⟩ := he
        refine Goes.astep K ?_ h'
        simp only [Go.Abs.astep, cond_true, hv, backA, finO_ret hf, cond_false, finO_ok hf hp]
      · cases he
    · cases he
  · cases he

theorem olight_ok (K : ProgOk P) {S S2 : AM} {p : Prop} {sk : Bool} {v : Value} {h2 : AHeap} {Q : AM → Prop} (he : olight P S = some (.mk p sk v h2, S2)) (hp : p) (h' : Goes P S2 Q) : Goes P S Q := by
  unfold olight at he
  split at he
  · rename_i op ho
    split at he
    · rename_i v1 h1 hx
      split at he
      · rename_i p1 fr hf
        simp only [Option.some.injEq, Prod.mk.injEq, EvR.mk.injEq] at he
        obtain ⟨⟨rfl, rfl, rfl, rfl⟩, rfl⟩ := he
        have hfs : finS P S v1 h1 = some ⟨fr, S.callers, h1⟩ := by simp only [finS, finO_ok hf hp]
        exact Goes.astep K (step_of_op (opS_of ho hx) hfs) h'
      · cases he
    · cases he
  · cases he

theorem ostep_ok (K : ProgOk P) {e : Ev} {S S2 : AM} {p : Prop} {sk : Bool} {v : Value} {h2 : AHeap} {Q : AM → Prop} (he : ostep P e S = some (.mk p sk v h2, S2)) (hp : p) (h' : Goes P S2 Q) : Goes P S Q := by
  cases e with
  | ret => exact oret_ok K he hp h'
  | light => exact olight_ok K he hp h'
  | _ => exact ostep1_ok K he hp h'

theorem orun_ok (K : ProgOk P) : ∀ {l : List (Nat × Ev)} {m : Nat} {S S2 : AM} {p : Prop} {Q : AM → Prop}, orun P l m S = some (.mk p S2) → p → Goes P S2 Q → Goes P S Q
  | [], m, S, S2, p, Q, he, hp, h' => by
    unfold orun at he
    split at he
    · rename_i S1 h1
      simp only [Option.some.injEq, Got.mk.injEq] at he
      obtain ⟨rfl, rfl⟩ := he
      exact Goes.run K h1 h'
    · cases he
  | (n, e) :: l, m, S, S2, p, Q, he, hp, h' => by
    unfold orun at he
    split at he
    · rename_i S1 h1
      split at he
      · rename_i p1 sk v h2 S3 hs
        split at he
        · rename_i q S4 hr
          simp only [Option.some.injEq, Got.mk.injEq] at he
          obtain ⟨rfl, rfl⟩ := he
          exact Goes.run K h1 (ostep_ok K hs hp.1 (orun_ok K hr hp.2 h'))
        · cases he
      · cases he
    · cases he

theorem Goes.trace (K : ProgOk P) {l : List (Nat × Ev)} {m : Nat} {S S2 : AM} {p : Prop} {Q : AM → Prop} (he : orun P l m S = some (.mk p S2)) (hp : p) (h' : Goes P S2 Q) : Goes P S Q := orun_ok K he hp h'

theorem keptP_ok {h : AHeap} : ∀ {keep : List (Nat × Bool)}, keptP h keep → ∀ id o, (id, true) ∈ keep → h.objs.get id = some o → PlainO o
  | [], _, id, o, hm, _ => by cases hm
  | (i, q) :: l, hp, id, o, hm, ho => by
    unfold keptP at hp
    cases q with
    | true =>
      rcases List.mem_cons.1 hm with hm | hm
      · cases hm
        have h1 := hp.1
        rw [ho] at h1
        exact h1
      · exact keptP_ok hp.2 id o hm ho
    | false =>
      rcases List.mem_cons.1 hm with hm | hm
      · cases hm
      · exact keptP_ok hp id o hm ho

/-- A stretch with open values, to a small state. -/
theorem Goes.seg2 (K : ProgOk P) {l : List (Nat × Ev)} {m : Nat} {keep : List (Nat × Bool)} {top : List Tmp} {slots : List (List Tmp)} {S S2 : AM} {p : Prop} {Q : AM → Prop} (he : ocanon P l m keep top slots S = some (.mk p S2))
    (hp : p) (h' : Goes P S2 Q) : Goes P S Q := by
  unfold ocanon at he
  split at he
  · rename_i p1 S1 hr
    split at he
    · rename_i S3 hc
      simp only [Option.some.injEq, Got.mk.injEq] at he
      obtain ⟨rfl, rfl⟩ := he
      exact orun_ok K hr hp.1 (Goes.weaken (canon_weaker hc (keptP_ok hp.2)) h')
    · cases he
  · cases he

/-! ## Calls, step by step, in whatever memory -/

theorem Goes.enter (K : ProgOk P) {S : AM} {f : FuncId} {args : List Value} {fr : AFrame} {Q : AM → Prop} (ho : opS P S = some (.enter f args)) (he : enterA P f args .normal = some fr) (h' : Goes P ⟨fr, S.frame :: S.callers, S.heap⟩ Q) : Goes P S Q := by
  refine Goes.astep K ?_ h'
  obtain ⟨⟨fn, nt, tm, todo, ds, r, kd, ro⟩, cs, h⟩ := S
  unfold opS at ho
  simp only at ho
  split at ho
  · rename_i ops i rest k
    split at ho
    · rename_i o hlo
      split at ho
      · rename_i hw
        rw [execF_eq] at ho
        have hnc : isComm o = false := by
          cases hc : isComm o with
          | false => rfl
          | true => rw [isComm_none hc] at ho; cases ho
        simp only [Go.Abs.astep, cond_false, operA, hlo, hw, hnc, ho, goOn, he]
      · cases ho
    · cases ho
  · rename_i ops i rest k
    split at ho
    · rename_i o hlo
      split at ho
      · rename_i hw
        rw [execF_eq] at ho
        have hnc : isComm o = false := by
          cases hc : isComm o with
          | false => rfl
          | true => rw [isComm_none hc] at ho; cases ho
        simp only [Go.Abs.astep, cond_false, operA, hlo, hw, hnc, ho, goOn, he]
      · cases ho
    · cases ho
  · cases ho

theorem opS_ret {S : AM} {a : ANext} (h : opS P S = some a) : S.frame.ret = false := by
  unfold opS at h
  split at h
  · assumption
  · assumption
  · cases h

/-- A frame that has ended gives its value to the one that called it. -/
theorem Goes.leave (K : ProgOk P) {S : AM} {fn nt : Nat} {tm : PA Value} {todo : List AItem} {ro : Option Nat} {h : AHeap} {v : Value} {Q : AM → Prop} (h0 : S.frame.ret = false) (hr : resultA P fn tm h = some v) (hf : (finS P S v h).isSome = true)
    (h' : Goes P (fin1 P S v h) Q) : Goes P ⟨⟨fn, nt, tm, todo, [], true, .normal, ro⟩, S.frame :: S.callers, h⟩ Q := by
  cases hfs : finS P S v h with
  | none => rw [hfs] at hf; cases hf
  | some S' =>
    simp only [fin1, hfs] at h'
    refine Goes.astep K ?_ h'
    unfold finS at hfs
    split at hfs
    · rename_i fr hfr
      simp only [Option.some.injEq] at hfs; subst hfs
      simp only [Go.Abs.astep, cond_true, hr, backA, h0, cond_false, hfr]
    · cases hfs
end
end Go.Abs

/- Whole numbers that are open: what operations give. -/

namespace Go.Abs
section
variable {P : Program} {t : TypeId} {k : IntKind} {a b r : Int}

theorem ab_add0 : abin P .add t (.int k a) (.int k b) = some (.int k (k.wrap (a + b))) := by cases k <;> rfl
theorem ab_sub0 : abin P .sub t (.int k a) (.int k b) = some (.int k (k.wrap (a - b))) := by cases k <;> rfl
theorem ab_lss : abin P .lss t (.int k a) (.int k b) = some (.bool (decide (a < b))) := by cases k <;> rfl
theorem ab_leq : abin P .leq t (.int k a) (.int k b) = some (.bool (decide (a ≤ b))) := by cases k <;> rfl
theorem ab_gtr : abin P .gtr t (.int k a) (.int k b) = some (.bool (decide (a > b))) := by cases k <;> rfl
theorem ab_geq : abin P .geq t (.int k a) (.int k b) = some (.bool (decide (a ≥ b))) := by cases k <;> rfl
theorem ab_eql : abin P .eql t (.int k a) (.int k b) = some (.bool (decide (a = b))) := by cases k <;> rfl
theorem ab_neq : abin P .neq t (.int k a) (.int k b) = some (.bool (!decide (a = b))) := by cases k <;> rfl

theorem wrap64 (h1 : -9223372036854775808 ≤ r) (h2 : r < 9223372036854775808) : IntKind.i64.wrap r = r := by
  show (if (true && decide (r % (2 ^ 64 : Int) ≥ (2 ^ 63 : Int))) = true then r % (2 ^ 64 : Int) - (2 ^ 64 : Int) else r % (2 ^ 64 : Int)) = r
  rw [Bool.true_and]
  split
  · rename_i h; have := of_decide_eq_true h; omega
  · rename_i h
    have : ¬ (r % (2 ^ 64 : Int) ≥ (2 ^ 63 : Int)) := fun h' => h (decide_eq_true h')
    omega

theorem add_ok (h : r = a + b) (h1 : -9223372036854775808 ≤ r) (h2 : r < 9223372036854775808) : abin P .add t (.int .i64 a) (.int .i64 b) = some (.int .i64 r) := by
  rw [ab_add0, ← h, wrap64 h1 h2]
theorem sub_ok (h : r = a - b) (h1 : -9223372036854775808 ≤ r) (h2 : r < 9223372036854775808) : abin P .sub t (.int .i64 a) (.int .i64 b) = some (.int .i64 r) := by
  rw [ab_sub0, ← h, wrap64 h1 h2]
theorem lss_t (h : a < b) : abin P .lss t (.int k a) (.int k b) = some (.bool true) := by rw [ab_lss, decide_eq_true h]
theorem lss_f (h : ¬ a < b) : abin P .lss t (.int k a) (.int k b) = some (.bool false) := by rw [ab_lss, decide_eq_false h]
theorem leq_t (h : a ≤ b) : abin P .leq t (.int k a) (.int k b) = some (.bool true) := by rw [ab_leq, decide_eq_true h]
theorem leq_f (h : ¬ a ≤ b) : abin P .leq t (.int k a) (.int k b) = some (.bool false) := by rw [ab_leq, decide_eq_false h]
theorem gtr_t (h : a > b) : abin P .gtr t (.int k a) (.int k b) = some (.bool true) := by rw [ab_gtr, decide_eq_true h]
theorem gtr_f (h : ¬ a > b) : abin P .gtr t (.int k a) (.int k b) = some (.bool false) := by rw [ab_gtr, decide_eq_false h]
theorem geq_t (h : a ≥ b) : abin P .geq t (.int k a) (.int k b) = some (.bool true) := by rw [ab_geq, decide_eq_true h]
theorem geq_f (h : ¬ a ≥ b) : abin P .geq t (.int k a) (.int k b) = some (.bool false) := by rw [ab_geq, decide_eq_false h]
theorem eql_t (h : a = b) : abin P .eql t (.int k a) (.int k b) = some (.bool true) := by rw [ab_eql, decide_eq_true h]
theorem eql_f (h : ¬ a = b) : abin P .eql t (.int k a) (.int k b) = some (.bool false) := by rw [ab_eql, decide_eq_false h]
theorem neq_t (h : ¬ a = b) : abin P .neq t (.int k a) (.int k b) = some (.bool true) := by rw [ab_neq, decide_eq_false h]; rfl
theorem neq_f (h : a = b) : abin P .neq t (.int k a) (.int k b) = some (.bool false) := by rw [ab_neq, decide_eq_true h]; rfl

theorem ble_t {m n : Nat} (h : m ≤ n) : Nat.ble m n = true := by rw [Nat.ble_eq]; exact h
theorem ble_f {m n : Nat} (h : ¬ m ≤ n) : Nat.ble m n = false := by
  cases hb : Nat.ble m n with
  | false => rfl
  | true => exact absurd (by rwa [Nat.ble_eq] at hb) h
end
end Go.Abs

/- Stretches that end with a return, or with fewer slots. -/

namespace Go.Abs
noncomputable section

/-- A frame's value, whoever called it, memory. -/
inductive Ret where
  | mk (p : Prop) (v : Value) (cs : List AFrame) (h : AHeap)

def retOf (P : Program) (p : Prop) : AM → Option Ret
  | ⟨⟨fn, _, tm, _, [], true, .normal, _⟩, cs, h⟩ => match resultA P fn tm h with
    | some v => some (.mk p v cs h)
    | none => none
  | _ => none

def orunR (P : Program) (l : List (Nat × Ev)) (m : Nat) (S : AM) : Option Ret := match orun P l m S with
  | some (.mk p S) => retOf P p S
  | none => none

def slimT (tm : PA Value) : List Tmp → PA Value → PA Value
  | [], t => t
  | x :: l, t => match tm.get x with
    | some v => match t.put x v with | .box t => slimT tm l t
    | none => slimT tm l t

/-- Some slots alone are kept. -/
def slim (keep : List Tmp) : AM → AM
  | ⟨⟨fn, nt, tm, todo, ds, r, kd, ro⟩, cs, h⟩ => ⟨⟨fn, nt, slimT tm keep .nil, todo, ds, r, kd, ro⟩, cs, h⟩

def oslim (P : Program) (l : List (Nat × Ev)) (m : Nat) (keep : List Tmp) (S : AM) : Option Got := match orun P l m S with
  | some (.mk p S) => bif plainTop S then some (.mk p (slim keep S)) else none
  | none => none
end

section
variable {P : Program}

theorem slimT_get (tm : PA Value) : ∀ (l : List Tmp) (t : PA Value), (∀ x v, t.get x = some v → tm.get x = some v) → ∀ x v, (slimT tm l t).get x = some v → tm.get x = some v
  | [], t, ht, x, v, h => ht x v h
  | y :: l, t, ht, x, v, h => by
    unfold slimT at h
    split at h
    · rename_i w hw
      split at h
      rename_i t2 ht2
      refine slimT_get tm l t2 (fun z u hz => ?_) x v h
      have he : t2 = (t.put y w).un := by rw [ht2]; rfl
      rw [he, PA.put_get] at hz
      by_cases hzy : z = y
      · subst hzy; rw [if_pos rfl] at hz; rw [hw]; exact hz
      · rw [if_neg hzy] at hz; exact ht z u hz
    · exact slimT_get tm l t ht x v h

theorem Goes.slim {S : AM} {keep : List Tmp} {Q : AM → Prop} (hp : plainTop S = true) (h' : Goes P (slim keep S) Q) : Goes P S Q := by
  obtain ⟨⟨fn, nt, tm, todo, ds, r, kd, ro⟩, cs, h⟩ := S
  exact Goes.weaken (weaker_slots hp (slimT_get tm keep .nil fun x v hx => by rw [PA.get_nil] at hx; cases hx)) h'

theorem Goes.oslim (K : ProgOk P) {l : List (Nat × Ev)} {m : Nat} {keep : List Tmp} {S S2 : AM} {p : Prop} {Q : AM → Prop} (he : Go.Abs.oslim P l m keep S = some (.mk p S2)) (hp : p) (h' : Goes P S2 Q) : Goes P S Q := by
  unfold Go.Abs.oslim at he
  split at he
  · rename_i p1 S1 hr
    cases hb : plainTop S1 with
    | false => rw [hb] at he; cases he
    | true =>
      rw [hb] at he
      simp only [cond_true, Option.some.injEq, Got.mk.injEq] at he
      obtain ⟨rfl, rfl⟩ := he
      exact orun_ok K hr hp (Goes.slim hb h')
  · cases he

theorem Goes.retR (K : ProgOk P) {l : List (Nat × Ev)} {m : Nat} {S S0 : AM} {p : Prop} {v : Value} {h : AHeap} {Q : AM → Prop} (he : orunR P l m S0 = some (.mk p v (S.frame :: S.callers) h)) (hp : p) (h0 : S.frame.ret = false)
    (hf : (finS P S v h).isSome = true) (h' : Goes P (fin1 P S v h) Q) : Goes P S0 Q := by
  unfold orunR at he
  split at he
  · rename_i p1 S1 hr
    unfold retOf at he
    split at he
    · rename_i fn nt tm todo ro cs h1
      split at he
      · rename_i v1 hv
        simp only [Option.some.injEq, Ret.mk.injEq] at he
        obtain ⟨rfl, rfl, rfl, rfl⟩ := he
        exact orun_ok K hr hp (Goes.leave K h0 hv hf h')
      · cases he
    · cases he
  · cases he

/-- A function that leaves memory alone, and has no loop over open values. -/
theorem callV_run (K : ProgOk P) {f : FuncId} {args : List Value} {fr : AFrame} {v : Value} {l : List (Nat × Ev)} {m : Nat} {p : Prop} (he : enterA P f args .normal = some fr)
    (hr : ∀ S : AM, orunR P l m ⟨fr, S.frame :: S.callers, S.heap⟩ = some (.mk p v (S.frame :: S.callers) S.heap)) (hp : p) : CallV P f args v := by
  intro S Q ho hf h'
  exact Goes.enter K ho he (Goes.retR K (hr S) hp (opS_ret ho) hf h')
end
end Go.Abs

/- Texts and rows that are open: what operations give. -/

namespace Go.Abs
section
variable {P : Program} {h : AHeap} {t : TypeId}

theorem indexByteA_none {c : Nat} : ∀ {l : List UInt8} {i : Nat}, (∀ x ∈ l, x.toNat ≠ c) → indexByteA l c i = -1
  | [], _, _ => rfl
  | b :: l, i, hl => by
    have h1 : Nat.beq b.toNat c = false := by
      cases hb : Nat.beq b.toNat c with
      | false => rfl
      | true => exact absurd (Nat.eq_of_beq_eq_true hb) (hl b List.mem_cons_self)
    simp only [indexByteA, h1, cond_false]
    exact indexByteA_none fun x hx => hl x (List.mem_cons_of_mem _ hx)

theorem indexByteA_at {c : UInt8} {r : List UInt8} : ∀ {l : List UInt8} {i : Nat}, (∀ x ∈ l, x ≠ c) → indexByteA (l ++ c :: r) c.toNat i = Int.ofNat (i + l.length)
  | [], i, _ => by
    have h1 : Nat.beq c.toNat c.toNat = true := Nat.beq_refl _
    simp only [List.nil_append, indexByteA, h1, cond_true, List.length_nil, Nat.add_zero]
  | b :: l, i, hl => by
    have h1 : Nat.beq b.toNat c.toNat = false := by
      cases hb : Nat.beq b.toNat c.toNat with
      | false => rfl
      | true => exact absurd (UInt8.toNat_inj.1 (Nat.eq_of_beq_eq_true hb)) (hl b List.mem_cons_self)
    simp only [List.cons_append, indexByteA, h1, cond_false]
    rw [indexByteA_at fun x hx => hl x (List.mem_cons_of_mem _ hx)]
    simp only [List.length_cons, Nat.succ_eq_add_one]
    congr 1; omega

theorem beqBytes_f {x y : List UInt8} (hn : x ≠ y) : beqBytes x y = false := by
  rw [beqBytes_eq]
  exact beq_false_of_ne hn
theorem beqBytes_t (x : List UInt8) : beqBytes x x = true := by
  rw [beqBytes_eq]
  exact beq_self_eq_true x

theorem str_eql_f {x y : List UInt8} (hn : x ≠ y) : abin P .eql t (.string ⟨⟨x⟩⟩) (.string ⟨⟨y⟩⟩) = some (.bool false) := by
  simp only [abin, beqBytes_f hn]
theorem str_eql_t (x : List UInt8) : abin P .eql t (.string ⟨⟨x⟩⟩) (.string ⟨⟨x⟩⟩) = some (.bool true) := by
  simp only [abin, beqBytes_t]
theorem str_neq_f (x : List UInt8) : abin P .neq t (.string ⟨⟨x⟩⟩) (.string ⟨⟨x⟩⟩) = some (.bool false) := by
  simp only [abin, beqBytes_t, Bool.not_true]
theorem str_neq_t {x y : List UInt8} (hn : x ≠ y) : abin P .neq t (.string ⟨⟨x⟩⟩) (.string ⟨⟨y⟩⟩) = some (.bool true) := by
  simp only [abin, beqBytes_f hn, Bool.not_false]
theorem str_add {x y : List UInt8} (hl : x.length + y.length ≤ 4611686018427387904) : abin P .add t (.string ⟨⟨x⟩⟩) (.string ⟨⟨y⟩⟩) = some (.string ⟨⟨x ++ y⟩⟩) := by
  have h1 : Nat.ble (Nat.add (sizeB ⟨⟨x⟩⟩) (sizeB ⟨⟨y⟩⟩)) 4611686018427387904 = true := ble_t hl
  simp only [abin, h1, cond_true, appBytes]

theorem slS_hi {s r : List UInt8} {n : Nat} (hu : P.underlying t = some .string) (hn : n ≤ s.length) (hr : r = s.take n) : sliceA P h t (.string ⟨⟨s⟩⟩) none (some (.int .i64 (Int.ofNat n))) none = some (.string ⟨⟨r⟩⟩, h) := by
  have e1 : Nat.ble n (lengthL s) = true := by rw [lengthL_eq]; exact ble_t hn
  have e2 : takeL (Nat.sub n 0) (dropL 0 s) = some (s.take n) := by rw [dropL_eq]; exact takeL_all s n hn
  subst hr
  simp only [sliceA, hu, bound, asNat, e1, cond_true, e2]

theorem slS_lo {s r : List UInt8} {n : Nat} (hu : P.underlying t = some .string) (hn : n ≤ s.length) (hr : r = s.drop n) : sliceA P h t (.string ⟨⟨s⟩⟩) (some (.int .i64 (Int.ofNat n))) none none = some (.string ⟨⟨r⟩⟩, h) := by
  have e1 : Nat.ble n (lengthL s) = true := by rw [lengthL_eq]; exact ble_t hn
  have e2 : takeL (Nat.sub (lengthL s) n) (dropL n s) = some (s.drop n) := by
    have e3 : Nat.sub (lengthL s) n = (s.drop n).length := by rw [lengthL_eq, List.length_drop]; rfl
    rw [dropL_eq, e3, takeL_all _ _ (Nat.le_refl _), List.take_length]
  subst hr
  simp only [sliceA, hu, bound, asNat, e1, cond_true, e2]

theorem slS_both {s r : List UInt8} {m n : Nat} (hu : P.underlying t = some .string) (hm : m ≤ n) (hn : n ≤ s.length) (hr : r = (s.drop m).take (n - m)) : sliceA P h t (.string ⟨⟨s⟩⟩) (some (.int .i64 (Int.ofNat m))) (some (.int .i64 (Int.ofNat n))) none = some (.string ⟨⟨r⟩⟩, h) := by
  have e1 : Nat.ble n (lengthL s) = true := by rw [lengthL_eq]; exact ble_t hn
  have e0 : Nat.ble m n = true := ble_t hm
  have e2 : takeL (Nat.sub n m) (dropL m s) = some ((s.drop m).take (n - m)) := by
    rw [dropL_eq]; exact takeL_all _ _ (by rw [List.length_drop]; show n - m ≤ _; omega)
  subst hr
  simp only [sliceA, hu, bound, asNat, e1, e0, cond_true, e2]

/-- A row's cells. -/
theorem loadN_lst {l r : List Value} {off n : Nat} (hn : off + n ≤ l.length) (hr : r = (l.drop off).take n) : (PA.lst l).loadN off n = some r := by
  subst hr
  show takeL n (dropL off l) = _
  rw [dropL_eq]
  exact takeL_all _ _ (by rw [List.length_drop]; omega)

theorem loadN_lst1 {l : List Value} {off : Nat} {v : Value} (hv : l[off]? = some v) : (PA.lst l).loadN off 1 = some [v] := by
  have hlt : off < l.length := by
    rcases Nat.lt_or_ge off l.length with h1 | h1
    · exact h1
    · rw [List.getElem?_eq_none h1] at hv; cases hv
  refine loadN_lst (by omega) ?_
  have : l.drop off = v :: l.drop (off + 1) := by
    rw [List.drop_eq_getElem_cons hlt]
    congr 1
    rw [List.getElem?_eq_getElem hlt] at hv
    exact Option.some.inj hv
  rw [this]; rfl

theorem bytesOf_of (l : List UInt8) : bytesOf (ofBytes l) = some l := by
  induction l with
  | nil => rfl
  | cons b l ih =>
    simp only [ofBytes, bytesOf, ih]
    congr 2
    exact UInt8.ofNat_toNat

theorem ofBytes_length (l : List UInt8) : (ofBytes l).length = l.length := by rw [ofBytes_eq, List.length_map]
theorem ofBytes_append (a b : List UInt8) : ofBytes (a ++ b) = ofBytes a ++ ofBytes b := by simp only [ofBytes_eq, List.map_append]
theorem ofBytes_get {l : List UInt8} {n : Nat} {c : UInt8} (hc : l[n]? = some c) : (ofBytes l)[n]? = some (.int .u8 (Int.ofNat c.toNat)) := by
  rw [ofBytes_eq, List.getElem?_map, hc]; rfl
theorem oneL_ofBytes (l : List UInt8) : oneL (ofBytes l) = true := by
  induction l with
  | nil => rfl
  | cons b l ih => simp only [ofBytes, oneL, oneC, cond_true, ih]

theorem plainC_ofBytes (l : List UInt8) (n : Nat) : PlainC (.lst (ofBytes l)) n := by
  intro i v _ hv
  rw [PA.get_lst, ofBytes_eq, List.getElem?_map] at hv
  cases hl : l[i]? with
  | none => rw [hl] at hv; cases hv
  | some c =>
    rw [hl] at hv
    cases hv
    rfl
end
end Go.Abs

/- A call that reads some blocks, and writes none that was there: it does the same in any memory. -/

namespace Go.Abs
section
variable {P : Program} {ρ : Ren} {w0 : World} {n0 : Nat} {h : AHeap} {w : World}

theorem heapF_get : ∀ (l : List AObj) (t : PA AObj) (n i : Nat), (heapF t n l).objs.get i = if i < n then t.get i else if i < n + l.length then l[i - n]? else t.get i
  | [], t, n, i => by
    simp only [heapF, List.length_nil, Nat.add_zero]
    split <;> rfl
  | o :: l, t, n, i => by
    unfold heapF
    split
    rename_i t2 ht
    have ht2 : t2 = (t.put n o).un := by rw [ht]; rfl
    rw [heapF_get l t2 (Nat.succ n) i, ht2, PA.put_get]
    simp only [List.length_cons]
    by_cases h1 : i < n
    · rw [if_pos (by omega), if_pos h1, if_neg (by omega)]
    · by_cases h2 : i = n
      · subst h2
        rw [if_pos (by omega), if_pos rfl, if_neg h1, if_pos (by omega)]
        simp
      · rw [if_neg (by omega), if_neg h1]
        by_cases h3 : i < n + (l.length + 1)
        · rw [if_pos (by omega), if_pos h3]
          have : i - n = (i - (n + 1)) + 1 := by omega
          rw [this]; rfl
        · rw [if_neg (by omega), if_neg h3, if_neg h2]

theorem heapF_next : ∀ (l : List AObj) (t : PA AObj) (n : Nat), (heapF t n l).next = n + l.length ∧ (heapF t n l).fams = .nil
  | [], t, n => ⟨rfl, rfl⟩
  | o :: l, t, n => by
    unfold heapF
    split
    rename_i t2 ht
    obtain ⟨a, b⟩ := heapF_next l t2 (Nat.succ n)
    refine ⟨?_, b⟩
    rw [a]
    simp only [List.length_cons, Nat.succ_eq_add_one]
    omega

theorem heapL_get (l : List AObj) (i : Nat) : (heapL l).objs.get i = l[i]? := by
  unfold heapL
  rw [heapF_get]
  simp only [Nat.not_lt_zero, if_false, Nat.zero_add, Nat.sub_zero]
  split
  · rfl
  · rename_i h
    rw [PA.get_nil, List.getElem?_eq_none (by omega)]

/-- Blocks that are read: their numbers, and what is told of them. -/
def BaseOk (h : AHeap) : List (Nat × AObj) → Prop
  | [] => True
  | (id, o) :: l => (∃ c c' size e k x wr fam, h.objs.get id = some (.cells c size e k x wr fam) ∧ h.good id fam = true ∧ o = .cells c' size e k x false none ∧ (∀ i v, c'.get i = some v → c.get i = some v) ∧ PlainC c' size) ∧ BaseOk h l

theorem BaseOk.at {h : AHeap} : ∀ {bs : List (Nat × AObj)}, BaseOk h bs → ∀ (i id : Nat) (o : AObj), bs[i]? = some (id, o) →
    ∃ c c' size e k x wr fam, h.objs.get id = some (.cells c size e k x wr fam) ∧ h.good id fam = true ∧ o = .cells c' size e k x false none ∧ (∀ i v, c'.get i = some v → c.get i = some v) ∧ PlainC c' size
  | [], _, i, id, o, hi => by simp at hi
  | (x, y) :: l, hb, i, id, o, hi => by
    cases i with
    | zero => simp at hi; obtain ⟨rfl, rfl⟩ := hi; exact hb.1
    | succ i => exact BaseOk.at hb.2 i id o (by simpa using hi)

theorem plainS_mv {ρ ρ' : Ren} {v u : Value} (hp : plainV.plainS v = true) (h : VRel ρ v u) : VRel ρ' v u := by
  cases h <;> first | (simp [plainV.plainS] at hp; done) | constructor

noncomputable def toBase (bs : List (Nat × AObj)) : Nat → Option Nat := newId (bs.map fun p => (p.1, false)) 0

/-- A call that reads some blocks, in any memory that has them. -/
theorem callOk_ro {f : FuncId} {args0 args : List Value} {fr0 : AFrame} {v v2 : Value} {h2 : AHeap} {bs : List (Nat × AObj)} {keep : List (Nat × Bool)} {t : PA AObj} {g0 : AObj}
    (he : enterA P f args0 .normal = some fr0) (hgo : Goes P ⟨fr0, [], heapL (bs.map (·.2))⟩ (Returns P f v h2)) (hargs : renVs (toBase bs) args = some args0)
    (hb : BaseOk h bs) (hb0 : bs[0]? = some (0, g0)) (hn : nodupN (bs.map (·.1)) = true) (hf : nodupN (famsOf h (bs.map fun p => (p.1, false))) = true)
    (hk1 : nodupN (keep.map (·.1)) = true) (hk2 : nodupN (famsOf h2 keep) = true) (hk3 : keptB h2 keep = true) (hpl : ∀ id o, (id, true) ∈ keep → h2.objs.get id = some o → PlainO o)
    (hc : canonH (newId keep h.next) h2 keep h.next h.objs = some t) (hv : renV (newId keep h.next) v = some v2) : CallOk P f args h v2 ⟨t, h.next + keep.length, h.fams⟩ := by
  refine ⟨Nat.le_add_right _ _, fun {ρ w0 n0 w args'} S hg ha c cs => ?_⟩
  obtain ⟨e0, g1, g2, g3⟩ := hg
  have hnd := nodupN_iff.1 hn
  have hfd := nodupN_iff.1 hf
  let ρ0 : Ren := fun i => match bs[i]? with | some (id, _) => ρ id | none => none
  have hρ0 : ∀ i e, ρ0 i = some e → ∃ id o, bs[i]? = some (id, o) ∧ ρ id = some e := by
    intro i e hi
    have hi : (match bs[i]? with | some (id, _) => ρ id | none => none) = some e := hi
    split at hi
    · rename_i id o hbi; exact ⟨id, o, hbi, hi⟩
    · cases hi
  have hfit0 : Fits (toBase bs) ρ ρ0 := by
    intro id i hi
    obtain ⟨_, q, hq⟩ := newId_some hi
    rw [Nat.sub_zero, List.getElem?_map] at hq
    cases hbi : bs[i]? with
    | none => rw [hbi] at hq; cases hq
    | some p =>
      rw [hbi] at hq
      obtain ⟨x, y⟩ := p
      simp only [Option.map_some, Option.some.injEq, Prod.mk.injEq] at hq
      show (match bs[i]? with | some (id, _) => ρ id | none => none) = ρ id
      rw [hbi, hq.1]
  have hA : VsRel ρ0 args0 args' := renVs_rel hfit0 ha hargs
  have hget : ∀ i id o, bs[i]? = some (id, o) → (heapL (bs.map (·.2))).objs.get i = some o := by
    intro i id o hi
    rw [heapL_get, List.getElem?_map, hi]; rfl
  have hlen : (heapL (bs.map (·.2))).next = bs.length := by
    unfold heapL
    rw [(heapF_next _ _ _).1, Nat.zero_add, List.length_map]
  have hfm : (heapL (bs.map (·.2))).fams = .nil := by
    unfold heapL
    exact (heapF_next _ _ _).2
  have hS0 : SRel ρ0 w w.heap.size (heapL (bs.map (·.2))) w := by
    refine { obj := ?_, blk := ?_, lt := ?_, sep := ?_, wr := ?_, tip := ?_, tlt := ?_, tipf := ?_, fam := ?_, old := fun _ _ => rfl, size := Nat.le_refl _, env := ⟨rfl, rfl, rfl⟩ }
    · intro i e hi
      obtain ⟨id, o, hbi, hid⟩ := hρ0 i e hi
      obtain ⟨c1, c', size, el, k, x, wr, fam, a1, a2, rfl, a4, a5⟩ := hb.at i id o hbi
      refine ⟨_, hget i id _ hbi, fun _ => ?_⟩
      obtain ⟨o2, ho2, hor⟩ := S.obj id e hid
      rw [a1] at ho2
      simp only [Option.some.injEq] at ho2; subst ho2
      obtain ⟨h1, h3, h4, rc, rel, fz, h5, _, h6, h7⟩ := hor a2
      refine ⟨h1, h3, h4, rc, rel, fz, h5, (fun hh => by cases hh), h6, fun i v hi hv => ?_⟩
      obtain ⟨v', b1, b2⟩ := h7 i v hi (a4 i v hv)
      exact ⟨v', b1, plainS_mv (a5 i v hi hv) b2⟩
    · intro i e hi; obtain ⟨id, o, _, hid⟩ := hρ0 i e hi; exact S.blk id _ hid
    · intro i hi
      rw [hlen] at hi
      rw [heapL_get, List.getElem?_eq_none (by simpa using hi)]
    · intro i j ei ej oi oj hi hj hoi hoj hbb
      obtain ⟨id, o, hbi, hid⟩ := hρ0 i ei hi
      obtain ⟨jd, o', hbj, hjd⟩ := hρ0 j ej hj
      obtain ⟨c1, c', size, el, k, x, wr, fam, a1, a2, rfl, a4, a5⟩ := hb.at i id o hbi
      obtain ⟨c1', c2', size', el', k', x', wr', fam', a1', a2', rfl, a4', a5'⟩ := hb.at j jd o' hbj
      rw [hget i id _ hbi] at hoi
      rw [hget j jd _ hbj] at hoj
      simp only [Option.some.injEq] at hoi hoj
      subst hoi; subst hoj
      have ei1 : (bs.map (·.1))[i]? = some id := by rw [List.getElem?_map, hbi]; rfl
      have ej1 : (bs.map (·.1))[j]? = some jd := by rw [List.getElem?_map, hbj]; rfl
      have hil : i < (bs.map (·.1)).length := by
        rcases Nat.lt_or_ge i (bs.map (·.1)).length with h | h
        · exact h
        · rw [List.getElem?_eq_none h] at ei1; cases ei1
      rcases S.sep id jd ei ej _ _ hid hjd a1 a1' hbb with h4 | ⟨ff, h4, h5⟩ | h4 | h4
      · left
        subst h4
        exact (List.getElem?_inj hil hnd).1 (by rw [ei1, ej1])
      · left
        have b1 : (bs.map fun p => (p.1, false))[i]? = some (id, false) := by rw [List.getElem?_map, hbi]; rfl
        have b2 : (bs.map fun p => (p.1, false))[j]? = some (jd, false) := by rw [List.getElem?_map, hbj]; rfl
        have hnd2 : ((bs.map fun p => (p.1, false)).map (·.1)).Nodup := by
          have : (bs.map fun p => (p.1, false)).map (·.1) = bs.map (·.1) := by rw [List.map_map]; rfl
          rw [this]; exact hnd
        exact famsOf_nodup hfd hnd2 b1 b2 a1 a1' h4 h5
      · right; right; left
        cases size with
        | zero => cases x with
          | true => rfl
          | false => cases wr <;> cases fam <;> simp [AObj.isZ] at h4
        | succ n => simp [AObj.isZ] at h4
      · right; right; right
        cases size' with
        | zero => cases x' with
          | true => rfl
          | false => cases wr' <;> cases fam' <;> simp [AObj.isZ] at h4
        | succ n => simp [AObj.isZ] at h4
    · intro i e o hi ho hw
      obtain ⟨id, o2, hbi, hid⟩ := hρ0 i e hi
      obtain ⟨c1, c', size, el, k, x, wr, fam, a1, a2, rfl, a4, a5⟩ := hb.at i id o2 hbi
      rw [hget i id _ hbi] at ho
      simp only [Option.some.injEq] at ho; subst ho
      cases hw
    · intro f F hF; rw [hfm, PA.get_nil] at hF; cases hF
    · intro f F hF; rw [hfm, PA.get_nil] at hF; cases hF
    · intro f F hF; rw [hfm, PA.get_nil] at hF; cases hF
    · intro i o ff ho hof
      rw [heapL_get, List.getElem?_map] at ho
      cases hbi : bs[i]? with
      | none => rw [hbi] at ho; cases ho
      | some p =>
        obtain ⟨id, o2⟩ := p
        rw [hbi] at ho
        simp only [Option.map_some, Option.some.injEq] at ho; subst ho
        obtain ⟨c1, c', size, el, k, x, wr, fam, a1, a2, rfl, a4, a5⟩ := hb.at i id o2 hbi
        cases hof
  have hg0 : ρ0 0 = some e0 := by
    show (match bs[0]? with | some (id, _) => ρ id | none => none) = some e0
    rw [hb0]; exact g1
  obtain ⟨S1, ρ1, F1, Fs1, w1, r1, r2, r3⟩ := hgo.get (bs := c :: cs) (enter_rel he hS0 ⟨e0, hg0, g2, g3⟩ hA)
  obtain ⟨v', b1, S2, _, b3⟩ := leave_steps r1 r3 c cs
  have hn1 := nodupN_iff.1 hk1
  have hn2 := nodupN_iff.1 hk2
  obtain ⟨c1, c2, c3⟩ := canonH_get hc
  let ρ2 : Ren := fun i => if i < h.next then ρ i else match keep[i - h.next]? with | some (id, _) => ρ1 id | none => none
  have hdom : ∀ i e, ρ i = some e → i < h.next := by
    intro i e hi
    obtain ⟨o, ho, _⟩ := S.obj i e hi
    rcases Nat.lt_or_ge i h.next with h1 | h1
    · exact h1
    · rw [S.lt i h1] at ho; cases ho
  have hold : ∀ i, i < h.next → ρ2 i = ρ i := fun i hi => if_pos hi
  have hnew : ∀ j, ρ2 (h.next + j) = match keep[j]? with | some (id, _) => ρ1 id | none => none := by
    intro j
    show (if h.next + j < h.next then _ else _) = _
    rw [if_neg (by omega), Nat.add_sub_cancel_left]
  have hle : ρ.le ρ2 := fun i e hi => by rw [hold i (hdom i e hi)]; exact hi
  have hfit : Fits (newId keep h.next) ρ1 ρ2 := by
    intro id i hi
    obtain ⟨hge, q, hq2⟩ := newId_some hi
    obtain ⟨j, rfl⟩ : ∃ j, i = h.next + j := ⟨i - h.next, by omega⟩
    rw [Nat.add_sub_cancel_left] at hq2
    rw [hnew, hq2]
  -- what a number of the new renaming is
  have hcase : ∀ i e, ρ2 i = some e → (i < h.next ∧ ρ i = some e) ∨ (∃ j id q, i = h.next + j ∧ keep[j]? = some (id, q) ∧ ρ1 id = some e) := by
    intro i e hi
    rcases Nat.lt_or_ge i h.next with h1 | h1
    · rw [hold i h1] at hi; exact .inl ⟨h1, hi⟩
    · obtain ⟨j, rfl⟩ : ∃ j, i = h.next + j := ⟨i - h.next, by omega⟩
      rw [hnew] at hi
      cases hkj : keep[j]? with
      | none => rw [hkj] at hi; cases hi
      | some p =>
        obtain ⟨id, q⟩ := p
        rw [hkj] at hi
        exact .inr ⟨j, id, q, rfl, hkj, hi⟩
  have hobj : ∀ (j id : Nat) (q : Bool), keep[j]? = some (id, q) → ∃ o o', h2.objs.get id = some o ∧ h2.good id o.fam = true ∧ renO (newId keep h.next) q o = some o' ∧ t.get (h.next + j) = some o' := c3
  have hrel : ∀ (e : RE) (j id : Nat) (q : Bool) (o o' : AObj), keep[j]? = some (id, q) → ρ1 id = some e → h2.objs.get id = some o → h2.good id o.fam = true → renO (newId keep h.next) q o = some o' →
      ORel ρ2 ⟨t, h.next + keep.length, h.fams⟩ w1 e o' ∧ o'.fam = none ∧ o'.wr = o.wr ∧ (o.isZ = true → o'.isZ = true) := by
    intro e j id q o o' hk he ho hgd hr
    obtain ⟨o2, ho2, hor⟩ := S2.obj id e he
    rw [ho] at ho2; cases ho2
    refine renO_rel hfit hr (fun hqt => ?_) (fun m m' es v hm hmo => ?_) (hor hgd)
    · subst hqt; exact hpl id o (List.mem_of_getElem? hk) ho
    · obtain ⟨hge, q2, hq2⟩ := newId_some hm
      obtain ⟨j2, rfl⟩ : ∃ j, m' = h.next + j := ⟨m' - h.next, by omega⟩
      rw [Nat.add_sub_cancel_left] at hq2
      obtain ⟨om, om', a1, a2, a3, a4⟩ := hobj j2 m q2 hq2
      rw [hmo] at a1; cases a1
      simp only [renO] at a3
      split at a3
      · rename_i es2 _
        simp only [Option.some.injEq] at a3; subst a3
        exact ⟨es2, a4⟩
      · cases a3
  have hsame : ∀ b, b < w.heap.size → w1.heap[b]? = w.heap[b]? := S2.old
  have hsz : w.heap.size ≤ w1.heap.size := S2.size
  have htold : ∀ i, i < h.next → t.get i = h.objs.get i := c1
  have hfar : ∀ (j id : Nat) (q : Bool) (e : RE) (o : AObj), keep[j]? = some (id, q) → ρ1 id = some e → h2.objs.get id = some o → w.heap.size ≤ e.blk ∨ o.isZ = true := by
    intro j id q e o hk he ho
    rcases keptB_get hk3 j id q o hk ho with h1 | h1
    · exact .inl (S2.wr id e o he ho h1)
    · exact .inr h1
  have hne : keep.length = keep.length := rfl
  have hSR : SRel ρ2 w0 n0 ⟨t, h.next + keep.length, h.fams⟩ w1 := by
    refine { obj := ?_, blk := ?_, lt := ?_, sep := ?_, wr := ?_, tip := ?_, tlt := ?_, tipf := ?_, fam := ?_, old := ?_, size := ?_, env := ?_ }
    · intro i e hi
      rcases hcase i e hi with ⟨h1, h3⟩ | ⟨j, id, q, rfl, hk, h3⟩
      · obtain ⟨o, ho, hor⟩ := S.obj i e h3
        refine ⟨o, by show t.get i = _; rw [htold i h1]; exact ho, fun hgd => ?_⟩
        have hgd : h.good i o.fam = true := by
          cases hfo : o.fam with
          | none => exact AHeap.good_none _ _
          | some ff =>
            rw [hfo] at hgd
            simpa only [AHeap.good] using hgd
        refine ((hor hgd).other (h' := ⟨t, h.next + keep.length, h.fams⟩) (hsame _ (S.blk i e h3)) fun m em es v hm hmo => ?_).mono hle
        exact ⟨es, v, by show t.get m = _; rw [htold m (hdom m em hm)]; exact hmo, .inr ⟨rfl, rfl, hsame _ (S.blk m em hm)⟩⟩
      · obtain ⟨o, o', a, b, c, d⟩ := hobj j id q hk
        exact ⟨o', d, fun _ => (hrel e j id q o o' hk h3 a b c).1⟩
    · intro i e hi
      rcases hcase i e hi with ⟨h1, h3⟩ | ⟨j, id, q, rfl, hk, h3⟩
      · exact Nat.lt_of_lt_of_le (S.blk i e h3) hsz
      · exact S2.blk id e h3
    · intro i hi
      have hi : h.next + keep.length ≤ i := hi
      show t.get i = none
      rw [c2 i hi]
      exact S.lt i (by omega)
    · intro i j ei ej oi oj hi hj hoi hoj hbb
      have hoi : t.get i = some oi := hoi
      have hoj : t.get j = some oj := hoj
      rcases hcase i ei hi with ⟨h1, h3⟩ | ⟨i2, id, q, rfl, hk, h3⟩
      · rw [htold i h1] at hoi
        rcases hcase j ej hj with ⟨h1', h3'⟩ | ⟨j2, id', q', rfl, hk', h3'⟩
        · rw [htold j h1'] at hoj
          exact S.sep i j ei ej oi oj h3 h3' hoi hoj hbb
        · obtain ⟨p, p', a', b', c', d'⟩ := hobj j2 id' q' hk'
          rw [d'] at hoj
          have hoj := Option.some.inj hoj
          subst hoj
          rcases hfar j2 id' q' ej p hk' h3' a' with h4 | h4
          · have := S.blk i ei h3; omega
          · right; right; right; exact (hrel ej j2 id' q' p p' hk' h3' a' b' c').2.2.2 h4
      · obtain ⟨o, o', a, b, c, d⟩ := hobj i2 id q hk
        rw [d] at hoi
        have hoi := Option.some.inj hoi
        subst hoi
        rcases hcase j ej hj with ⟨h1', h3'⟩ | ⟨j2, id', q', rfl, hk', h3'⟩
        · rcases hfar i2 id q ei o hk h3 a with h4 | h4
          · have := S.blk j ej h3'; omega
          · right; right; left; exact (hrel ei i2 id q o o' hk h3 a b c).2.2.2 h4
        · obtain ⟨p, p', a', b', c', d'⟩ := hobj j2 id' q' hk'
          rw [d'] at hoj
          have hoj := Option.some.inj hoj
          subst hoj
          rcases S2.sep id id' ei ej o p h3 h3' a a' hbb with h4 | ⟨ff, h4, h5⟩ | h4 | h4
          · left
            subst h4
            have hi1 : i2 < keep.length := by
              rcases Nat.lt_or_ge i2 keep.length with h | h
              · exact h
              · rw [List.getElem?_eq_none h] at hk; cases hk
            have e1 : (keep.map (·.1))[i2]? = some id := by rw [List.getElem?_map, hk]; rfl
            have e2 : (keep.map (·.1))[j2]? = some id := by rw [List.getElem?_map, hk']; rfl
            have : i2 = j2 := (List.getElem?_inj (by simpa using hi1) hn1).1 (by rw [e1, e2])
            rw [this]
          · left
            have := famsOf_nodup hn2 hn1 hk hk' a a' h4 h5
            omega
          · right; right; left
            exact (hrel ei i2 id q o o' hk h3 a b c).2.2.2 h4
          · right; right; right
            exact (hrel ej j2 id' q' p p' hk' h3' a' b' c').2.2.2 h4
    · intro i e oi hi hoi hw
      have hoi : t.get i = some oi := hoi
      rcases hcase i e hi with ⟨h1, h3⟩ | ⟨j, id, q, rfl, hk, h3⟩
      · rw [htold i h1] at hoi
        exact S.wr i e oi h3 hoi hw
      · obtain ⟨o, o', a, b, c, d⟩ := hobj j id q hk
        rw [d] at hoi
        have hoi := Option.some.inj hoi
        subst hoi
        have := S2.wr id e o h3 a (by rw [← (hrel e j id q o o' hk h3 a b c).2.2.1]; exact hw)
        have := S.size
        omega
    · intro ff F hF id e et o hid htp ho hof hgd hbl
      have hF : h.fams.get ff = some F := hF
      have ho : t.get id = some o := ho
      have hF2 : F.tip < h.next := S.tlt ff F hF
      rw [hold _ hF2] at htp
      rcases hcase id e hid with ⟨h1, h3⟩ | ⟨j, id', q, rfl, hk, h3⟩
      · rw [htold id h1] at ho
        exact S.tip ff F hF id e et o h3 htp ho hof (by simpa only [AHeap.good] using hgd) hbl
      · obtain ⟨o1, o', a, b, c, d⟩ := hobj j id' q hk
        rw [d] at ho
        have ho := Option.some.inj ho
        subst ho
        rw [(hrel e j id' q o1 o' hk h3 a b c).2.1] at hof; cases hof
    · intro ff F hF
      have := S.tlt ff F hF
      show F.tip < h.next + keep.length
      omega
    · intro ff F hF
      have := S.tlt ff F hF
      obtain ⟨o, ho, hof⟩ := S.tipf ff F hF
      exact ⟨o, by show t.get F.tip = _; rw [htold _ this]; exact ho, hof⟩
    · intro i o ff ho hof
      have ho : t.get i = some o := ho
      rcases Nat.lt_or_ge i h.next with h1 | h1
      · rw [htold i h1] at ho
        exact S.fam i o ff ho hof
      · exfalso
        rcases Nat.lt_or_ge i (h.next + keep.length) with h3 | h3
        · obtain ⟨j, rfl⟩ : ∃ j, i = h.next + j := ⟨i - h.next, by omega⟩
          have hj : j < keep.length := by omega
          obtain ⟨p, hp⟩ : ∃ p, keep[j]? = some p := ⟨keep[j], List.getElem?_eq_getElem hj⟩
          obtain ⟨id, q⟩ := p
          obtain ⟨o1, o', a, b, c, d⟩ := hobj j id q hp
          rw [d] at ho
          have ho := Option.some.inj ho
          subst ho
          rw [renO_fam c] at hof; cases hof
        · rw [c2 i h3, S.lt i h1] at ho; cases ho
    · intro b hb2
      rw [hsame b (Nat.lt_of_lt_of_le hb2 S.size)]
      exact S.old b hb2
    · exact Nat.le_trans S.size hsz
    · obtain ⟨a, b, c⟩ := S2.env
      obtain ⟨a', b', c'⟩ := S.env
      exact ⟨a.trans a', b.trans b', c.trans c'⟩
  exact ⟨v', w1, ρ2, ⟨hle, fun i hi => hold i hi⟩, Steps.trans r2 (.one b3), renV_rel hfit b1 hv, hSR⟩
end
end Go.Abs

