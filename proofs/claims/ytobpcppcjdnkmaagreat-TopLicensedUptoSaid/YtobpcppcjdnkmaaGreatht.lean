/- The row's facts, one by one. -/
import Derived.Test.YtobpcppcjdnkmaaGreath
set_option linter.all false
namespace Go.Proofs.YtobpcppcjdnkmaaGreat
open Go.Proofs.Tryz
theorem Gu:(Rows.topLicensedUptoRow.inPlace==Tryz.pinned.checked.prog.inPlace 3)=true:=om
theorem qac:(Rows.topLicensedUptoRow.unfollowed==Tryz.pinned.checked.prog.unfollowed 3)=true:=om
theorem qad:(Rows.topLicensedUptoRow.recurses==Tryz.pinned.checked.prog.recurses 3)=true:=om
theorem Nv:(Rows.topLicensedUptoRow.named==Tryz.pinned.checked.prog.varsNamed 3)=true:=om
theorem Nu:(Tryz.pinned.checked.prog.stops== [])=true:=om
theorem Nw:(Tryz.pinned.checked.prog.stopKnobs== [])=true:=om
theorem qf3{a b:Bool}(ha:a=true)(hb:b=true):(a&&b)=true:=by rw [ha,hb];rfl
theorem J7:joinedFacts Tryz.pinned.checked.prog 3 Tryz.f3 (Rows.OpenSpec.upto Rows.topLicensedSpec).bare Rows.topLicensedUptoRow=true:=by
 unfold joinedFacts;repeat' with_reducible apply qf3
 all_goals first|with_reducible exact Gu|with_reducible exact qac|with_reducible exact qad|with_reducible exact Nv|with_reducible exact Nu|with_reducible exact Nw|kernel_rfl
end Go.Proofs.YtobpcppcjdnkmaaGreat
