/-
  The listed variables strconv.ErrSyntax and strconv.ErrRange each read as an error: the walks' premise.
-/
import Derived.Test.YtgoedenbekedbaaGreatDoorTabsS
import Derived.Test.YtgoedenbekedbaaGreatDoorRows
import Derived.PinnedBridge
import Derived.Lib.LaidU8
namespace Go.Proofs.YtgoedenbekedbaaGreatDoor.TabsS
open Go Go.RowKit Go.Lib Go.Shelf
theorem iface_of {P : Program} {W : World} {fuel : Nat} {t : TypeId} {cs : List Value} {d : DataW Unit} {p : List MemPlace} {ms : _} (hu : P.underlying t = some (.interface ms)) (h : DataW.trod (fun _ => ()) P W 0 (fun _ => true) false fuel t cs = some (d, p)) :
    cs = [.nilIface] ∨ ∃ u v, cs = [.iface u v] := by
  cases fuel with
  | zero => simp [DataW.trod] at h
  | succ fuel =>
    unfold DataW.trod at h
    rw [hu] at h
    rcases cs with _ | ⟨v, _ | ⟨v2, cs⟩⟩
    · simp at h
    · cases v <;> first | exact .inl rfl | exact .inr ⟨_, _, rfl⟩ | simp at h
    · simp at h
theorem err_of {W : World} {n : String} {d : DataW Unit} (g : Nat) (hg0 : Tryz.prog.globalNamed n = some g) (ht0 : (Tryz.prog.globals[g]?).map (·.type) = some 45) (h : VarReads Tryz.prog W n d) : Err g W := by
  obtain ⟨g', t, cs, fuel, p, hg, hty, hvar, hd⟩ := h
  obtain rfl := Option.some.inj (hg0.symm.trans hg)
  obtain rfl := Option.some.inj (ht0.symm.trans hty)
  have hc := iface_of Tryz.underlying45 hd
  unfold World.var? at hvar
  rw [hg0, Option.bind_some] at hvar
  have hcell : ∀ ev, cs.toList = [ev] → W.cell? ⟨g, 0, none⟩ = some ev := fun ev he => by
    have h0 : cs[0]? = some ev := by rw [← Array.getElem?_toList, he]; rfl
    unfold World.cell?
    cases hh : W.heap[g]? with
    | none => rw [hh] at hvar; cases hvar
    | some o =>
      rw [hh] at hvar
      cases o <;> simp at hvar
      subst hvar
      simpa using h0
  rcases hc with hc | ⟨u, v, hc⟩
  · exact ⟨_, hcell _ hc, .inl rfl⟩
  · exact ⟨_, hcell _ hc, .inr ⟨u, v, rfl⟩⟩
theorem of_reads {W : World} (h3 : VarReads Tryz.prog W "strconv.ErrSyntax" Rows.laid_strconv_ErrSyntax) (h4 : VarReads Tryz.prog W "strconv.ErrRange" Rows.laid_strconv_ErrRange) : Tabs0 W :=
  ⟨err_of 1 (by kernel_rfl) (by kernel_rfl) h3, err_of 2 (by kernel_rfl) (by kernel_rfl) h4⟩
end Go.Proofs.YtgoedenbekedbaaGreatDoor.TabsS
